import PyProof.Rows.All
import Wide.All
import OpenK.AllK
import Wide.FinOn
import HandS.ForMost
import HandS.ForExc
import HandS.TupAny
import HandS.TupMul
import HandS.Wide
import HandS.WideBits
import HandS.Deep
import HandS.IsInst
import HandS.SortInts
import HandS.FStr
import HandS.More
import HandS.Style
import HandS.Zip
import HandS.Defaults
import HandS.Rev
import HandS.Words
import HandS.WordsExc
import HandS.New
import HandS.Strs
import KE.KStateDown
import HandS.Head0
import HandS.Head1
import HandS.Head2
import HandS.HeadEnd
import HandS.HeadHook1
import HandS.HeadHook2
import PySem.Challenge.RW_firstdecides_k01_words_and_marks
import Lean
set_option Elab.async false
set_option linter.all false
set_option maxRecDepth 100000
/-! EV 1: values as trees, the worlds of frozen things, the relation of states -/
namespace EV
open PySem PySem.Spec L2
open PyProof.Rows hiding St

/-- a value as a tree. rol: a list that is only read (the script); cell: a list or object that is known by its number -/
inductive D where
  | non | bool (b : Bool) | int (i : Int) | str (x : Str) | cell (i : Nat) | fn (i : Nat)
  | rol (xs : List D) | lst (xs : List D) | tup (xs : List D)
  | dct (kvs : List (Key × D)) | dtt (kvs : List (List Key × D)) | ins (c : Nat) (fs : List (Nat × D))
  deriving Inhabited

/-- a slot: no value, a frozen value, a value that this slot alone owns -/
inductive SV where
  | no | fz (d : D) | ow (d : D)
  deriving Inhabited
abbrev SL := List SV
abbrev CL := List D
/-- an exception: its class, its fields -/
structure XV where
  c : Nat
  fs : List (Nat × D)
inductive Ot (α : Type) where
  | ok (a : α) (s : SL) (c : CL) | ex (x : XV) (s : SL) (c : CL) | bad
def Ot.bind {α β : Type} (o : Ot α) (k : α → SL → CL → Ot β) : Ot β := match o with
  | .ok a s c => k a s c
  | .ex x s c => .ex x s c
  | .bad => .bad
/-- an expression's meaning; the Bool: is it new (a list that nothing else knows) -/
abbrev ME := SL → CL → Ot (D × Bool)
abbrev MT := SL → CL → Ot Bool

structure Gp where
  K : PySem.W.Frag
  cA : Nat → Addr
  fA : Nat → Addr
  nm : Nat → Str
/-- a world: the frozen objects, the cells' addresses -/
structure Wd where
  F : Hp
  R : List Addr
structure Wd.le (A B : Wd) : Prop where
  F : ∀ a o, A.F a = some o → B.F a = some o
  R : ∀ (i : Nat) a, A.R[i]? = some a → B.R[i]? = some a
theorem Wd.le.refl (A : Wd) : A.le A := ⟨fun _ _ h => h, fun _ _ h => h⟩
theorem Wd.le.trans {A B C : Wd} (h : A.le B) (k : B.le C) : A.le C := ⟨fun a o e => k.F a o (h.F a o e), fun i a e => k.R i a (h.R i a e)⟩

theorem Rd.mono {F F' : Hp} {a : Addr} {u : HO} (r : Rd F a u) (h : ∀ a o, F a = some o → F' a = some o) : Rd F' a u := by
  rcases r with r | ⟨o, r⟩
  · exact .inl (h _ _ r)
  · exact .inr ⟨o, h _ _ r⟩
theorem SqL.mono {K : PySem.W.Frag} {F F' : Hp} {a : Addr} {xs : List V} (r : SqL K F a xs) (h : ∀ a o, F a = some o → F' a = some o) : SqL K F' a xs := by
  rcases r with r | r
  · exact .inl (Rd.mono r h)
  · exact .inr r
theorem SqT.mono {K : PySem.W.Frag} {F F' : Hp} {a : Addr} {xs : List V} (r : SqT K F a xs) (h : ∀ a o, F a = some o → F' a = some o) : SqT K F' a xs := by
  rcases r with r | r
  · exact .inl (Rd.mono r h)
  · exact .inr r

section
variable (G : Gp) (W : Wd)
mutual
/-- the tree d is frozen at v -/
inductive Rp : D → V → Prop
  | non : Rp .non .non
  | bool (b : Bool) : Rp (.bool b) (.bl b)
  | int (i : Int) : Rp (.int i) (.int i)
  | str (x : Str) : Rp (.str x) (.str x)
  | cell {i : Nat} {a : Addr} : W.R[i]? = some a → Rp (.cell i) (.ref a)
  | fn (i : Nat) : Rp (.fn i) (.ref (G.fA i))
  | rol {a : Addr} {xs : List D} {vs : List V} : SqL G.K W.F a vs → Rps xs vs → Rp (.rol xs) (.ref a)
  | lst {a : Addr} {xs : List D} {vs : List V} : W.F a = some (.lst vs) → Rps xs vs → Rp (.lst xs) (.ref a)
  | tup {a : Addr} {xs : List D} {vs : List V} : SqT G.K W.F a vs → Rps xs vs → Rp (.tup xs) (.ref a)
  | dct {a : Addr} {es : List (Key × D)} {kvs : List (Key × V)} : W.F a = some (.dK kvs) → Rkv es kvs → Rp (.dct es) (.ref a)
  | dtt {a : Addr} {es : List (List Key × D)} {kvs : List (List Key × V)} : W.F a = some (.dT kvs) → Rkt es kvs → Rp (.dtt es) (.ref a)
  | ins {a dx : Addr} {c : Nat} {fs : List (Nat × D)} {gs : List (Str × V)} : W.F a = some (.ins (G.cA c) dx gs) → Rfs fs gs → Rp (.ins c fs) (.ref a)
inductive Rps : List D → List V → Prop
  | nil : Rps [] []
  | cons {d : D} {v : V} {ds : List D} {vs : List V} : Rp d v → Rps ds vs → Rps (d :: ds) (v :: vs)
inductive Rkv : List (Key × D) → List (Key × V) → Prop
  | nil : Rkv [] []
  | cons {k : Key} {d : D} {v : V} {ds : List (Key × D)} {vs : List (Key × V)} : Rp d v → Rkv ds vs → Rkv ((k, d) :: ds) ((k, v) :: vs)
inductive Rkt : List (List Key × D) → List (List Key × V) → Prop
  | nil : Rkt [] []
  | cons {k : List Key} {d : D} {v : V} {ds : List (List Key × D)} {vs : List (List Key × V)} : Rp d v → Rkt ds vs → Rkt ((k, d) :: ds) ((k, v) :: vs)
inductive Rfs : List (Nat × D) → List (Str × V) → Prop
  | nil : Rfs [] []
  | cons {k : Nat} {d : D} {v : V} {ds : List (Nat × D)} {vs : List (Str × V)} : Rp d v → Rfs ds vs → Rfs ((k, d) :: ds) ((G.nm k, v) :: vs)
end
end
section
variable {G : Gp} {W W' : Wd}
mutual
theorem Rp.mono (h : W.le W') : ∀ {d : D} {v : V}, Rp G W d v → Rp G W' d v
  | _, _, .non => .non
  | _, _, .bool b => .bool b
  | _, _, .int b => .int b
  | _, _, .str b => .str b
  | _, _, .cell e => .cell (h.R _ _ e)
  | _, _, .fn i => .fn i
  | _, _, .rol e r => .rol (SqL.mono e h.F) (Rps.mono h r)
  | _, _, .lst e r => .lst (h.F _ _ e) (Rps.mono h r)
  | _, _, .tup e r => .tup (SqT.mono e h.F) (Rps.mono h r)
  | _, _, .dct e r => .dct (h.F _ _ e) (Rkv.mono h r)
  | _, _, .dtt e r => .dtt (h.F _ _ e) (Rkt.mono h r)
  | _, _, .ins e r => .ins (h.F _ _ e) (Rfs.mono h r)
theorem Rps.mono (h : W.le W') : ∀ {d : List D} {v : List V}, Rps G W d v → Rps G W' d v
  | _, _, .nil => .nil
  | _, _, .cons a b => .cons (Rp.mono h a) (Rps.mono h b)
theorem Rkv.mono (h : W.le W') : ∀ {d : List (Key × D)} {v : List (Key × V)}, Rkv G W d v → Rkv G W' d v
  | _, _, .nil => .nil
  | _, _, .cons a b => .cons (Rp.mono h a) (Rkv.mono h b)
theorem Rkt.mono (h : W.le W') : ∀ {d : List (List Key × D)} {v : List (List Key × V)}, Rkt G W d v → Rkt G W' d v
  | _, _, .nil => .nil
  | _, _, .cons a b => .cons (Rp.mono h a) (Rkt.mono h b)
theorem Rfs.mono (h : W.le W') : ∀ {d : List (Nat × D)} {v : List (Str × V)}, Rfs G W d v → Rfs G W' d v
  | _, _, .nil => .nil
  | _, _, .cons a b => .cons (Rp.mono h a) (Rfs.mono h b)
end
/-- the object o is the tree d, its parts frozen -/
def Obo (G : Gp) (W : Wd) (d : D) (o : HO) : Prop := match d with
  | .lst xs => ∃ vs, o = .lst vs ∧ Rps G W xs vs
  | .dct es => ∃ kvs, o = .dK kvs ∧ Rkv G W es kvs
  | .dtt es => ∃ kvs, o = .dT kvs ∧ Rkt G W es kvs
  | .ins c fs => ∃ dx gs, o = .ins (G.cA c) dx gs ∧ Rfs G W fs gs
  | _ => False
theorem Obo.mono (h : W.le W') {d : D} {o : HO} (x : Obo G W d o) : Obo G W' d o := by
  cases d with
  | lst xs => obtain ⟨vs, e, r⟩ := x; exact ⟨vs, e, r.mono h⟩
  | dct xs => obtain ⟨vs, e, r⟩ := x; exact ⟨vs, e, r.mono h⟩
  | dtt xs => obtain ⟨vs, e, r⟩ := x; exact ⟨vs, e, r.mono h⟩
  | ins c fs => obtain ⟨dx, gs, e, r⟩ := x; exact ⟨dx, gs, e, r.mono h⟩
  | _ => exact x
theorem Obo.fz (h : W.le W') {d : D} {o : HO} {a : Addr} (x : Obo G W d o) (e : W'.F a = some o) : Rp G W' d (.ref a) := by
  cases d with
  | lst xs => obtain ⟨vs, rfl, r⟩ := x; exact .lst e (r.mono h)
  | dct xs => obtain ⟨vs, rfl, r⟩ := x; exact .dct e (r.mono h)
  | dtt xs => obtain ⟨vs, rfl, r⟩ := x; exact .dtt e (r.mono h)
  | ins c fs => obtain ⟨dx, gs, rfl, r⟩ := x; exact .ins e (r.mono h)
  | _ => exact x.elim
end

/-- the ground of a def's run: the heap at its entry, what was frozen then, what is wished of exceptions -/
structure Cg where
  G : Gp
  H0 : Hp
  F0 : Hp
  R0 : List Addr
  KX : XV → Wd → SL → CL → Hp → Prop

/-- the states -/
structure Rel (C : Cg) (W : Wd) (s : SL) (c : CL) (σ : St) (H : Hp) : Prop where
  sub : ∀ a o, W.F a = some o → H a = some o
  fr : ∀ a o, C.H0 a = some o → a ∉ W.R → H a = some o
  nw : ∀ a o, W.F a = some o → C.F0 a = some o ∨ C.H0 a = none
  clen : c.length = W.R.length
  rin : ∀ a, a ∈ C.R0 → a ∈ W.R
  rnw : ∀ a, a ∈ W.R → a ∈ C.R0 ∨ C.H0 a = none
  cnd : W.R.Nodup
  cel : ∀ (i : Nat) d a, c[i]? = some d → W.R[i]? = some a → W.F a = none ∧ ∃ o, H a = some o ∧ Obo C.G W d o
  slen : s.length = σ.length
  sfz : ∀ (i : Nat) d, s[i]? = some (.fz d) → ∃ v, σ[i]? = some (some v) ∧ Rp C.G W d v
  sow : ∀ (i : Nat) d, s[i]? = some (.ow d) → ∃ a o, σ[i]? = some (some (.ref a)) ∧ H a = some o ∧ Obo C.G W d o ∧ W.F a = none ∧ a ∉ W.R ∧ C.H0 a = none
  dis : ∀ (i j : Nat) d e a, s[i]? = some (.ow d) → s[j]? = some (.ow e) → σ[i]? = some (some (.ref a)) → σ[j]? = some (some (.ref a)) → i = j
/-- a result: frozen, or new -/
def Rr (C : Cg) (W : Wd) (s : SL) (σ : St) (H : Hp) (d : D) (b : Bool) (v : V) : Prop :=
  if b = true then ∃ a o, v = .ref a ∧ H a = some o ∧ Obo C.G W d o ∧ W.F a = none ∧ a ∉ W.R ∧ C.H0 a = none ∧ ∀ (i : Nat) e, s[i]? = some (.ow e) → σ[i]? ≠ some (some (.ref a)) else Rp C.G W d v
theorem Rr.fz {C : Cg} {W : Wd} {s : SL} {σ : St} {H : Hp} {d : D} {v : V} (r : Rp C.G W d v) : Rr C W s σ H d false v := by
  unfold Rr
  rw [if_neg (by decide)]
  exact r

section
variable {C : Cg} {W W' : Wd} {s : SL} {c : CL} {σ : St} {H : Hp} {d : D} {b : Bool} {v : V}
/-- an object that nothing owns is frozen -/
theorem Rel.freeze {a : Addr} {o : HO} (r : Rel C W s c σ H) (h : H a = some o) (hR : a ∉ W.R) (h0 : C.H0 a = none) (hs : ∀ (i : Nat) e, s[i]? = some (.ow e) → σ[i]? ≠ some (some (.ref a))) (hF : W.F a = none) :
    W.le ⟨upd W.F a o, W.R⟩ ∧ Rel C ⟨upd W.F a o, W.R⟩ s c σ H := by
  have le : W.le ⟨upd W.F a o, W.R⟩ := ⟨fun b u e => by
    show upd W.F a o b = some u
    rw [upd_ne (ne_of_none e hF)]
    exact e, fun _ _ e => e⟩
  refine ⟨le, ⟨fun b u e => ?_, r.fr, fun b u e => ?_, r.clen, r.rin, r.rnw, r.cnd, fun i d b e1 e2 => ?_, r.slen, fun i d e => ?_, fun i d e => ?_, r.dis⟩⟩
  · have e' : upd W.F a o b = some u := e
    by_cases hb : b = a
    · subst hb
      rw [upd_same] at e'
      rw [h, ← e']
    · rw [upd_ne hb] at e'
      exact r.sub _ _ e'
  · have e' : upd W.F a o b = some u := e
    by_cases hb : b = a
    · subst hb
      exact .inr h0
    · rw [upd_ne hb] at e'
      exact r.nw _ _ e'
  · obtain ⟨q1, o', q2, q3⟩ := r.cel i d b e1 e2
    refine ⟨?_, o', q2, q3.mono le⟩
    show upd W.F a o b = none
    have hne : b ≠ a := fun z => hR (by rw [← z]; exact List.mem_of_getElem? e2)
    rw [upd_ne hne]
    exact q1
  · obtain ⟨v, e1, q⟩ := r.sfz i d e
    exact ⟨v, e1, q.mono le⟩
  · obtain ⟨b, u, e1, e2, q, f1, f2, f3⟩ := r.sow i d e
    refine ⟨b, u, e1, e2, q.mono le, ?_, f2, f3⟩
    show upd W.F a o b = none
    have hne : b ≠ a := fun z => hs i d e (by rw [← z]; exact e1)
    rw [upd_ne hne]
    exact f1
theorem Rel.freezeR (r : Rel C W s c σ H) (q : Rr C W s σ H d b v) : ∃ W', W.le W' ∧ Rel C W' s c σ H ∧ Rp C.G W' d v := by
  unfold Rr at q
  cases b with
  | false =>
    rw [if_neg (by decide)] at q
    exact ⟨W, .refl W, r, q⟩
  | true =>
    rw [if_pos rfl] at q
    obtain ⟨a, o, rfl, h, ob, hF, hR, h0, hs⟩ := q
    obtain ⟨le, r'⟩ := r.freeze h hR h0 hs hF
    exact ⟨_, le, r', ob.fz le upd_same⟩
/-- an object is laid that nothing knows yet -/
theorem Rel.laid {a : Addr} {o : HO} (r : Rel C W s c σ H) (hn : H a = none) : Rel C W s c σ (upd H a o) := by
  have ne : ∀ b u, H b = some u → upd H a o b = some u := fun b u e => by
    rw [upd_ne (ne_of_none e hn)]
    exact e
  refine ⟨fun b u e => ne _ _ (r.sub _ _ e), fun b u e m => ne _ _ (r.fr _ _ e m), r.nw, r.clen, r.rin, r.rnw, r.cnd, fun i d b e1 e2 => ?_, r.slen, r.sfz, fun i d e => ?_, r.dis⟩
  · obtain ⟨q1, o', q2, q3⟩ := r.cel i d b e1 e2
    exact ⟨q1, o', ne _ _ q2, q3⟩
  · obtain ⟨b, u, e1, e2, q⟩ := r.sow i d e
    exact ⟨b, u, e1, ne _ _ e2, q⟩
theorem Rel.notR (r : Rel C W s c σ H) {a : Addr} (hn : H a = none) : a ∉ W.R := fun m => by
  obtain ⟨i, hi, e⟩ := List.mem_iff_getElem.mp m
  have hic : i < c.length := by rw [r.clen]; exact hi
  obtain ⟨_, o, q, _⟩ := r.cel i c[i] a (List.getElem?_eq_getElem hic) (by rw [List.getElem?_eq_getElem hi, e])
  rw [hn] at q
  cases q
theorem Rel.noF (r : Rel C W s c σ H) {a : Addr} (hn : H a = none) : W.F a = none := by
  cases q : W.F a with
  | none => rfl
  | some o =>
    rw [r.sub _ _ q] at hn
    cases hn
theorem Rel.noH0 (r : Rel C W s c σ H) {a : Addr} (hn : H a = none) : C.H0 a = none := by
  cases q : C.H0 a with
  | none => rfl
  | some o =>
    rw [r.fr _ _ q (r.notR hn)] at hn
    cases hn
theorem Rel.noOw (r : Rel C W s c σ H) {a : Addr} (hn : H a = none) (i : Nat) (e : D) (h : s[i]? = some (.ow e)) : σ[i]? ≠ some (some (.ref a)) := fun z => by
  obtain ⟨b, u, e1, e2, _⟩ := r.sow i e h
  rw [z] at e1
  cases e1
  rw [hn] at e2
  cases e2
/-- a new object, as a result -/
theorem Rel.new {a : Addr} {o : HO} (r : Rel C W s c σ H) (hn : H a = none) (ob : Obo C.G W d o) : Rel C W s c σ (upd H a o) ∧ Rr C W s σ (upd H a o) d true (.ref a) := by
  refine ⟨r.laid hn, ?_⟩
  unfold Rr
  rw [if_pos rfl]
  exact ⟨a, o, rfl, upd_same, ob, r.noF hn, r.notR hn, r.noH0 hn, r.noOw hn⟩
/-- a new object, frozen at once (a tuple) -/
theorem Rel.newF {a : Addr} {o : HO} (r : Rel C W s c σ H) (hn : H a = none) : W.le ⟨upd W.F a o, W.R⟩ ∧ Rel C ⟨upd W.F a o, W.R⟩ s c σ (upd H a o) :=
  (r.laid (o := o) hn).freeze upd_same (r.notR hn) (r.noH0 hn) (r.noOw hn) (r.noF hn)

/-- what follows an outcome -/
def Kont (C : Cg) (σ : St) (W : Wd) (o : Ot (D × Bool)) (Q : VK) : Prop := match o with
  | .ok (d, b) s' c' => ∀ W' v H', W.le W' → Rel C W' s' c' σ H' → Rr C W' s' σ H' d b v → Q v H'
  | .ex x s' c' => ∀ W' H', W.le W' → Rel C W' s' c' σ H' → C.KX x W' s' c' H'
  | .bad => False
def KontT (C : Cg) (σ : St) (W : Wd) (o : Ot Bool) (Q : Bool → Hp → Prop) : Prop := match o with
  | .ok b s' c' => ∀ W' H', W.le W' → Rel C W' s' c' σ H' → Q b H'
  | .ex x s' c' => ∀ W' H', W.le W' → Rel C W' s' c' σ H' → C.KX x W' s' c' H'
  | .bad => False
def TEv (C : Cg) (m : ME) : TE := fun σ H Q => ∃ W s c, Rel C W s c σ H ∧ Kont C σ W (m s c) Q
def TTv (C : Cg) (m : MT) : TT := fun σ H Q => ∃ W s c, Rel C W s c σ H ∧ KontT C σ W (m s c) Q
theorem Kont.up {o : Ot (D × Bool)} {Q : VK} (h : W.le W') (k : Kont C σ W o Q) : Kont C σ W' o Q := by
  cases o with
  | ok a s' c' =>
    obtain ⟨d, b⟩ := a
    exact fun W2 v H' l => k W2 v H' (h.trans l)
  | ex x s' c' => exact fun W2 H' l => k W2 H' (h.trans l)
  | bad => exact k
theorem KontT.up {o : Ot Bool} {Q : Bool → Hp → Prop} (h : W.le W') (k : KontT C σ W o Q) : KontT C σ W' o Q := by
  cases o with
  | ok a s' c' => exact fun W2 H' l => k W2 H' (h.trans l)
  | ex x s' c' => exact fun W2 H' l => k W2 H' (h.trans l)
  | bad => exact k
/-- one outcome behind another; what came first is frozen -/
theorem Kont.bind {o : Ot (D × Bool)} {k : D × Bool → SL → CL → Ot (D × Bool)} {Q : VK} (h : Kont C σ W (o.bind k) Q) :
    Kont C σ W o fun v H1 => ∃ W1 s1 c1 d b, W.le W1 ∧ Rel C W1 s1 c1 σ H1 ∧ Rr C W1 s1 σ H1 d b v ∧ Kont C σ W1 (k (d, b) s1 c1) Q := by
  cases o with
  | ok a s' c' =>
    obtain ⟨d, b⟩ := a
    exact fun W1 v H1 l r q => ⟨W1, s', c', d, b, l, r, q, Kont.up l h⟩
  | ex x s' c' => exact h
  | bad => exact h
theorem Kont.bindT {o : Ot Bool} {k : Bool → SL → CL → Ot (D × Bool)} {Q : VK} (h : Kont C σ W (o.bind k) Q) :
    KontT C σ W o fun b H1 => ∃ W1 s1 c1, W.le W1 ∧ Rel C W1 s1 c1 σ H1 ∧ Kont C σ W1 (k b s1 c1) Q := by
  cases o with
  | ok a s' c' => exact fun W1 H1 l r => ⟨W1, s', c', l, r, Kont.up l h⟩
  | ex x s' c' => exact h
  | bad => exact h
theorem KontT.bind {o : Ot (D × Bool)} {k : D × Bool → SL → CL → Ot Bool} {Q : Bool → Hp → Prop} (h : KontT C σ W (o.bind k) Q) :
    Kont C σ W o fun v H1 => ∃ W1 s1 c1 d b, W.le W1 ∧ Rel C W1 s1 c1 σ H1 ∧ Rr C W1 s1 σ H1 d b v ∧ KontT C σ W1 (k (d, b) s1 c1) Q := by
  cases o with
  | ok a s' c' =>
    obtain ⟨d, b⟩ := a
    exact fun W1 v H1 l r q => ⟨W1, s', c', d, b, l, r, q, KontT.up l h⟩
  | ex x s' c' => exact h
  | bad => exact h
theorem KontT.bindT {o : Ot Bool} {k : Bool → SL → CL → Ot Bool} {Q : Bool → Hp → Prop} (h : KontT C σ W (o.bind k) Q) :
    KontT C σ W o fun b H1 => ∃ W1 s1 c1, W.le W1 ∧ Rel C W1 s1 c1 σ H1 ∧ KontT C σ W1 (k b s1 c1) Q := by
  cases o with
  | ok a s' c' => exact fun W1 H1 l r => ⟨W1, s', c', l, r, KontT.up l h⟩
  | ex x s' c' => exact h
  | bad => exact h
end
theorem PEimp {X : Cx} {e : Expr} {t t' : TE} (h : PE X e t) (i : ∀ σ H Q, t' σ H Q → t σ H Q) : PE X e t' := ⟨fun pins s σ H Q I q => h.run pins s σ H Q I (i σ H Q q)⟩
theorem PTimp {X : Cx} {e : Expr} {t t' : TT} (h : PT X e t) (i : ∀ σ H Q, t' σ H Q → t σ H Q) : PT X e t' := ⟨fun pins s σ H Q I q => h.run pins s σ H Q I (i σ H Q q)⟩
theorem PWimp {X : Cx} {e : Expr} {t t' : TT} (h : PW X e t) (i : ∀ σ H Q, t' σ H Q → t σ H Q) : PW X e t' := ⟨fun wh pins s σ H Q I q => h.run wh pins s σ H Q I (i σ H Q q)⟩
end EV

set_option Elab.async false
set_option linter.all false
set_option maxRecDepth 100000
/-! EV 2: names, operands, operators by values -/
namespace EV
open PySem PySem.Spec L2
open PyProof.Rows hiding St

/-! ### operands: a frozen value, or a slot that is read late -/
inductive Od where
  | dv (d : D) | bw (i : Nat)
abbrev MO := SL → CL → Ot Od
def SV.get : SV → Option D
  | .no => none
  | .fz d => some d
  | .ow d => some d
/-- a cell is read through -/
def deref (c : CL) : D → Option D
  | .cell k => c[k]?
  | d => some d
def Od.raw (s : SL) : Od → Option D
  | .dv d => some d
  | .bw i => (s[i]?).bind SV.get
def Od.get (s : SL) (c : CL) (o : Od) : Option D := (o.raw s).bind (deref c)
def OdR (C : Cg) (W : Wd) (σ : St) : Od → V → Prop
  | .dv d, v => Rp C.G W d v
  | .bw i, v => σ[i]? = some (some v)
theorem OdR.mono {C : Cg} {W W' : Wd} {σ : St} {o : Od} {v : V} (h : W.le W') (r : OdR C W σ o v) : OdR C W' σ o v := by
  cases o with
  | dv d => exact Rp.mono h r
  | bw i => exact r
def KontO (C : Cg) (σ : St) (W : Wd) (o : Ot Od) (Q : VK) : Prop := match o with
  | .ok od s' c' => ∀ W' v H', W.le W' → Rel C W' s' c' σ H' → OdR C W' σ od v → Q v H'
  | .ex x s' c' => ∀ W' H', W.le W' → Rel C W' s' c' σ H' → C.KX x W' s' c' H'
  | .bad => False
def TOv (C : Cg) (m : MO) : TE := fun σ H Q => ∃ W s c, Rel C W s c σ H ∧ KontO C σ W (m s c) Q
/-- what can be read now -/
def Rb (C : Cg) (W : Wd) (H : Hp) (d : D) (v : V) : Prop := Rp C.G W d v ∨ ∃ a o, v = .ref a ∧ H a = some o ∧ Obo C.G W d o
section
variable {C : Cg} {W W' : Wd} {s : SL} {c : CL} {σ : St} {H : Hp} {d : D} {b : Bool} {v : V}
theorem KontO.up {o : Ot Od} {Q : VK} (h : W.le W') (k : KontO C σ W o Q) : KontO C σ W' o Q := by
  cases o with
  | ok a s' c' => exact fun W2 v H' l => k W2 v H' (h.trans l)
  | ex x s' c' => exact fun W2 H' l => k W2 H' (h.trans l)
  | bad => exact k
theorem KontO.bind {o : Ot Od} {k : Od → SL → CL → Ot (D × Bool)} {Q : VK} (h : Kont C σ W (o.bind k) Q) :
    KontO C σ W o fun v H1 => ∃ W1 s1 c1 od, W.le W1 ∧ Rel C W1 s1 c1 σ H1 ∧ OdR C W1 σ od v ∧ Kont C σ W1 (k od s1 c1) Q := by
  cases o with
  | ok a s' c' => exact fun W1 v H1 l r q => ⟨W1, s', c', a, l, r, q, Kont.up l h⟩
  | ex x s' c' => exact h
  | bad => exact h
theorem KontO.bindO {o : Ot Od} {k : Od → SL → CL → Ot Od} {Q : VK} (h : KontO C σ W (o.bind k) Q) :
    KontO C σ W o fun v H1 => ∃ W1 s1 c1 od, W.le W1 ∧ Rel C W1 s1 c1 σ H1 ∧ OdR C W1 σ od v ∧ KontO C σ W1 (k od s1 c1) Q := by
  cases o with
  | ok a s' c' => exact fun W1 v H1 l r q => ⟨W1, s', c', a, l, r, q, KontO.up l h⟩
  | ex x s' c' => exact h
  | bad => exact h
theorem KontO.bindT {o : Ot Od} {k : Od → SL → CL → Ot Bool} {Q : Bool → Hp → Prop} (h : KontT C σ W (o.bind k) Q) :
    KontO C σ W o fun v H1 => ∃ W1 s1 c1 od, W.le W1 ∧ Rel C W1 s1 c1 σ H1 ∧ OdR C W1 σ od v ∧ KontT C σ W1 (k od s1 c1) Q := by
  cases o with
  | ok a s' c' => exact fun W1 v H1 l r q => ⟨W1, s', c', a, l, r, q, KontT.up l h⟩
  | ex x s' c' => exact h
  | bad => exact h
theorem Kont.bindO {o : Ot (D × Bool)} {k : D × Bool → SL → CL → Ot Od} {Q : VK} (h : KontO C σ W (o.bind k) Q) :
    Kont C σ W o fun v H1 => ∃ W1 s1 c1 d b, W.le W1 ∧ Rel C W1 s1 c1 σ H1 ∧ Rr C W1 s1 σ H1 d b v ∧ KontO C σ W1 (k (d, b) s1 c1) Q := by
  cases o with
  | ok a s' c' =>
    obtain ⟨d, b⟩ := a
    exact fun W1 v H1 l r q => ⟨W1, s', c', d, b, l, r, q, KontO.up l h⟩
  | ex x s' c' => exact h
  | bad => exact h
theorem OdR.readRaw (r : Rel C W s c σ H) {od : Od} (q : OdR C W σ od v) (g : od.raw s = some d) : Rb C W H d v := by
  cases od with
  | dv e =>
    cases g
    exact .inl q
  | bw i =>
    have g' : (s[i]?).bind SV.get = some d := g
    cases e : s[i]? with
    | none =>
      rw [e] at g'
      cases g'
    | some x =>
      rw [e] at g'
      cases x with
      | no => cases g'
      | fz u =>
        cases g'
        obtain ⟨v', e1, e2⟩ := r.sfz i d e
        have q' : σ[i]? = some (some v) := q
        rw [e1] at q'
        cases q'
        exact .inl e2
      | ow u =>
        cases g'
        obtain ⟨a, o, e1, e2, e3, _⟩ := r.sow i d e
        have q' : σ[i]? = some (some v) := q
        rw [e1] at q'
        cases q'
        exact .inr ⟨a, o, rfl, e2, e3⟩
theorem Rb.deref (R : Rel C W s c σ H) {e : D} (r : Rb C W H e v) (g : deref c e = some d) : Rb C W H d v := by
  cases e with
  | cell k =>
    rcases r with r | ⟨_, _, _, _, z⟩
    · cases r with
      | cell h =>
        obtain ⟨_, o, q2, q3⟩ := R.cel k d _ g h
        exact .inr ⟨_, o, rfl, q2, q3⟩
    · exact z.elim
  | _ =>
    cases g
    exact r
theorem OdR.read (r : Rel C W s c σ H) {od : Od} (q : OdR C W σ od v) (g : od.get s c = some d) : Rb C W H d v := by
  unfold Od.get at g
  cases e : od.raw s with
  | none => rw [e] at g; cases g
  | some x =>
    rw [e] at g
    exact (q.readRaw r e).deref r g
theorem Rb.mono (h : W.le W') (r : Rb C W H d v) : Rb C W' H d v := by
  rcases r with r | ⟨a, o, e1, e2, e3⟩
  · exact .inl (r.mono h)
  · exact .inr ⟨a, o, e1, e2, e3.mono h⟩
theorem Rb.of {od : D} (r : Rp C.G W d v) : Rb C W H d v := .inl r
theorem Rb.non (r : Rb C W H .non v) : v = .non := by
  rcases r with r | ⟨a, o, _, _, e⟩
  · cases r; rfl
  · exact e.elim
theorem Rb.bool {i : Bool} (r : Rb C W H (.bool i) v) : v = .bl i := by
  rcases r with r | ⟨a, o, _, _, e⟩
  · cases r; rfl
  · exact e.elim
theorem Rb.int {i : Int} (r : Rb C W H (.int i) v) : v = .int i := by
  rcases r with r | ⟨a, o, _, _, e⟩
  · cases r; rfl
  · exact e.elim
theorem Rb.str {i : Str} (r : Rb C W H (.str i) v) : v = .str i := by
  rcases r with r | ⟨a, o, _, _, e⟩
  · cases r; rfl
  · exact e.elim
theorem Rb.lst (R : Rel C W s c σ H) {xs : List D} (r : Rb C W H (.lst xs) v) : ∃ a vs, v = .ref a ∧ H a = some (.lst vs) ∧ Rps C.G W xs vs := by
  rcases r with r | ⟨a, o, e1, e2, e⟩
  · cases r with
    | lst h q => exact ⟨_, _, rfl, R.sub _ _ h, q⟩
  · obtain ⟨vs, rfl, q⟩ := e
    exact ⟨_, _, e1, e2, q⟩
theorem Rb.tup (R : Rel C W s c σ H) {xs : List D} (r : Rb C W H (.tup xs) v) : ∃ a vs, v = .ref a ∧ SqT C.G.K H a vs ∧ Rps C.G W xs vs := by
  rcases r with r | ⟨a, o, e1, e2, e⟩
  · cases r with
    | tup h q => exact ⟨_, _, rfl, SqT.mono h R.sub, q⟩
  · exact e.elim
theorem Rb.rol (R : Rel C W s c σ H) {xs : List D} (r : Rb C W H (.rol xs) v) : ∃ a vs, v = .ref a ∧ SqL C.G.K H a vs ∧ Rps C.G W xs vs := by
  rcases r with r | ⟨a, o, e1, e2, e⟩
  · cases r with
    | rol h q => exact ⟨_, _, rfl, SqL.mono h R.sub, q⟩
  · exact e.elim
theorem Rb.ins (R : Rel C W s c σ H) {k : Nat} {fs : List (Nat × D)} (r : Rb C W H (.ins k fs) v) : ∃ a dx gs, v = .ref a ∧ H a = some (.ins (C.G.cA k) dx gs) ∧ Rfs C.G W fs gs := by
  rcases r with r | ⟨a, o, e1, e2, e⟩
  · cases r with
    | ins h q => exact ⟨_, _, _, rfl, R.sub _ _ h, q⟩
  · obtain ⟨dx, gs, rfl, q⟩ := e
    exact ⟨_, _, _, e1, e2, q⟩
theorem Rps.length : ∀ {xs : List D} {vs : List V}, Rps C.G W xs vs → xs.length = vs.length
  | _, _, .nil => rfl
  | _, _, .cons _ t => congrArg (· + 1) (Rps.length t)
theorem Rps.get : ∀ {xs : List D} {vs : List V} {i : Nat} {d : D}, Rps C.G W xs vs → xs[i]? = some d → ∃ v, vs[i]? = some v ∧ Rp C.G W d v
  | _, _, _, _, .nil, e => by simp at e
  | _, _, 0, _, .cons r _, e => by
    simp at e
    subst e
    exact ⟨_, rfl, r⟩
  | _, _, i + 1, d, .cons _ t, e => by
    obtain ⟨v, h1, h2⟩ := Rps.get (i := i) (d := d) t (by simpa using e)
    exact ⟨v, by simpa using h1, h2⟩
theorem Rps.append : ∀ {xs ys : List D} {vs us : List V}, Rps C.G W xs vs → Rps C.G W ys us → Rps C.G W (xs ++ ys) (vs ++ us)
  | _, _, _, _, .nil, h => h
  | _, _, _, _, .cons r t, h => .cons r (Rps.append t h)
theorem Rps.take : ∀ {xs : List D} {vs : List V} (n : Nat), Rps C.G W xs vs → Rps C.G W (xs.take n) (vs.take n)
  | _, _, 0, _ => .nil
  | _, _, _ + 1, .nil => .nil
  | _, _, n + 1, .cons r t => .cons r (Rps.take n t)
theorem Rps.drop : ∀ {xs : List D} {vs : List V} (n : Nat), Rps C.G W xs vs → Rps C.G W (xs.drop n) (vs.drop n)
  | _, _, 0, h => h
  | _, _, _ + 1, .nil => .nil
  | _, _, n + 1, .cons r t => Rps.drop n t
theorem Rps.set {x : D} {u : V} (q : Rp C.G W x u) : ∀ {xs : List D} {vs : List V} (n : Nat), Rps C.G W xs vs → Rps C.G W (xs.set n x) (vs.set n u)
  | _, _, _, .nil => .nil
  | _, _, 0, .cons r t => .cons q t
  | _, _, n + 1, .cons r t => .cons r (Rps.set q n t)
theorem Rps.erase : ∀ {xs : List D} {vs : List V} (n : Nat), Rps C.G W xs vs → Rps C.G W (xs.eraseIdx n) (vs.eraseIdx n)
  | _, _, _, .nil => .nil
  | _, _, 0, .cons r t => t
  | _, _, n + 1, .cons r t => .cons r (Rps.erase n t)
theorem Rps.rep {xs : List D} {vs : List V} (h : Rps C.G W xs vs) : ∀ k : Nat, Rps C.G W (List.replicate k xs).flatten (List.replicate k vs).flatten
  | 0 => .nil
  | k + 1 => by
    rw [List.replicate_succ, List.replicate_succ, List.flatten_cons, List.flatten_cons]
    exact h.append (Rps.rep h k)
theorem Rps.nil_iff {xs : List D} {vs : List V} (h : Rps C.G W xs vs) : vs = [] ↔ xs = [] := by
  cases h <;> simp
end

/-! ### names -/
def mVar (i : Nat) : ME := fun s c => match s[i]? with
  | some (.fz d) => .ok (d, false) s c
  | some (.ow d) => .ok (d, false) (s.set i (.fz d)) c
  | _ => .bad
/-- the last look at a slot: what it owns goes on -/
def mMov (i : Nat) : ME := fun s c => match s[i]? with
  | some (.fz d) => .ok (d, false) s c
  | some (.ow d) => .ok (d, true) (s.set i .no) c
  | _ => .bad
def mBw (i : Nat) : MO := fun s c => match s[i]? with
  | some .no => .bad
  | some _ => .ok (.bw i) s c
  | none => .bad
def mOf (m : ME) : MO := fun s c => (m s c).bind fun r s c => .ok (.dv r.1) s c
def mCon (d : D) : ME := fun s c => .ok (d, false) s c
section
variable {C : Cg} {W W' : Wd} {s : SL} {c : CL} {σ : St} {H : Hp} {d : D} {b : Bool} {v : V}
theorem set_get {α : Type} {l : List α} {i j : Nat} {x y : α} (h : (l.set i x)[j]? = some y) : (i = j ∧ x = y) ∨ (i ≠ j ∧ l[j]? = some y) := by
  by_cases e : i = j
  · subst e
    rw [List.getElem?_set] at h
    split at h
    · split at h
      · exact .inl ⟨rfl, Option.some.inj h⟩
      · cases h
    · rename_i z; exact absurd rfl z
  · rw [List.getElem?_set_ne e] at h
    exact .inr ⟨e, h⟩
/-- a slot's own list is frozen -/
theorem Rel.freezeSlot {i : Nat} (r : Rel C W s c σ H) (h : s[i]? = some (.ow d)) : ∃ W' v, W.le W' ∧ Rel C W' (s.set i (.fz d)) c σ H ∧ σ[i]? = some (some v) ∧ Rp C.G W' d v := by
  obtain ⟨a, o, e1, e2, e3, f1, f2, f3⟩ := r.sow i d h
  have le : W.le ⟨upd W.F a o, W.R⟩ := ⟨fun b u e => by
    show upd W.F a o b = some u
    rw [upd_ne (ne_of_none e f1)]
    exact e, fun _ _ e => e⟩
  have rp : Rp C.G ⟨upd W.F a o, W.R⟩ d (.ref a) := e3.fz le upd_same
  refine ⟨⟨upd W.F a o, W.R⟩, .ref a, le, ⟨fun b u e => ?_, r.fr, fun b u e => ?_, r.clen, r.rin, r.rnw, r.cnd, fun j d b q1 q2 => ?_, by rw [List.length_set]; exact r.slen, fun j d e => ?_, fun j d e => ?_, fun j k x y b q1 q2 q3 q4 => ?_⟩, e1, rp⟩
  · have e' : upd W.F a o b = some u := e
    by_cases hb : b = a
    · subst hb
      rw [upd_same] at e'
      rw [e2, ← e']
    · rw [upd_ne hb] at e'
      exact r.sub _ _ e'
  · have e' : upd W.F a o b = some u := e
    by_cases hb : b = a
    · subst hb
      exact .inr f3
    · rw [upd_ne hb] at e'
      exact r.nw _ _ e'
  · obtain ⟨q1, o', q2, q3⟩ := r.cel j d b q1 q2
    refine ⟨?_, o', q2, q3.mono le⟩
    show upd W.F a o b = none
    have hne : b ≠ a := fun z => f2 (by rw [← z]; exact List.mem_of_getElem? (by assumption))
    rw [upd_ne hne]
    exact q1
  · rcases set_get e with ⟨z, e⟩ | ⟨z, e⟩
    · cases e
      subst z
      exact ⟨_, e1, rp⟩
    · obtain ⟨v, q1, q⟩ := r.sfz j d e
      exact ⟨v, q1, q.mono le⟩
  · rcases set_get e with ⟨z, e⟩ | ⟨z, e⟩
    · cases e
    · obtain ⟨b, u, q1, q2, q, g1, g2, g3⟩ := r.sow j d e
      refine ⟨b, u, q1, q2, q.mono le, ?_, g2, g3⟩
      show upd W.F a o b = none
      have hne : b ≠ a := fun y => z (r.dis i j _ _ a h e e1 (by rw [← y]; exact q1))
      rw [upd_ne hne]
      exact g1
  · rcases set_get q1 with ⟨_, e⟩ | ⟨_, e⟩
    · cases e
    · rcases set_get q2 with ⟨_, e'⟩ | ⟨_, e'⟩
      · cases e'
      · exact r.dis j k x y b e e' q3 q4
/-- a slot is forgotten -/
theorem Rel.setNo (r : Rel C W s c σ H) (i : Nat) : Rel C W (s.set i .no) c σ H := by
  refine ⟨r.sub, r.fr, r.nw, r.clen, r.rin, r.rnw, r.cnd, r.cel, by rw [List.length_set]; exact r.slen, fun j d e => ?_, fun j d e => ?_, fun j k x y b q1 q2 q3 q4 => ?_⟩
  · rcases set_get e with ⟨z, e⟩ | ⟨z, e⟩
    · cases e
    · exact r.sfz j d e
  · rcases set_get e with ⟨z, e⟩ | ⟨z, e⟩
    · cases e
    · exact r.sow j d e
  · rcases set_get q1 with ⟨_, e⟩ | ⟨_, e⟩
    · cases e
    · rcases set_get q2 with ⟨_, e'⟩ | ⟨_, e'⟩
      · cases e'
      · exact r.dis j k x y b e e' q3 q4
end
section
variable {X : Cx} {C : Cg} {x : Str} {i : Nat} {pos : Pos}
theorem ve_var (h : PE X (.Name x pos) (tVar i)) : PE X (.Name x pos) (TEv C (mVar i)) := PEimp h fun σ H Q ⟨W, s, c, r, k⟩ => by
  unfold mVar at k
  cases e : s[i]? with
  | none => rw [e] at k; exact k.elim
  | some z =>
    rw [e] at k
    cases z with
    | no => exact k.elim
    | fz d =>
      obtain ⟨v, e1, e2⟩ := r.sfz i d e
      exact ⟨v, e1, k W v H (.refl W) r (.fz e2)⟩
    | ow d =>
      obtain ⟨W', v, le, r', e1, e2⟩ := r.freezeSlot e
      exact ⟨v, e1, k W' v H le r' (.fz e2)⟩
theorem ve_mov (h : PE X (.Name x pos) (tVar i)) : PE X (.Name x pos) (TEv C (mMov i)) := PEimp h fun σ H Q ⟨W, s, c, r, k⟩ => by
  unfold mMov at k
  cases e : s[i]? with
  | none => rw [e] at k; exact k.elim
  | some z =>
    rw [e] at k
    cases z with
    | no => exact k.elim
    | fz d =>
      obtain ⟨v, e1, e2⟩ := r.sfz i d e
      exact ⟨v, e1, k W v H (.refl W) r (.fz e2)⟩
    | ow d =>
      obtain ⟨a, o, e1, e2, e3, f1, f2, f3⟩ := r.sow i d e
      refine ⟨.ref a, e1, k W _ H (.refl W) (r.setNo i) ?_⟩
      unfold Rr
      rw [if_pos rfl]
      refine ⟨a, o, rfl, e2, e3, f1, f2, f3, fun j u q z => ?_⟩
      rcases set_get q with ⟨_, q⟩ | ⟨ne, q⟩
      · cases q
      · exact ne (r.dis i j _ _ a e q e1 z)
theorem vo_bw (h : PE X (.Name x pos) (tVar i)) : PE X (.Name x pos) (TOv C (mBw i)) := PEimp h fun σ H Q ⟨W, s, c, r, k⟩ => by
  unfold mBw at k
  cases e : s[i]? with
  | none => rw [e] at k; exact k.elim
  | some z =>
    rw [e] at k
    cases z with
    | no => exact k.elim
    | fz d =>
      obtain ⟨v, e1, e2⟩ := r.sfz i d e
      exact ⟨v, e1, k W v H (.refl W) r e1⟩
    | ow d =>
      obtain ⟨a, o, e1, e2, _⟩ := r.sow i d e
      exact ⟨.ref a, e1, k W _ H (.refl W) r e1⟩
theorem vo_of {e : Expr} {m : ME} (h : PE X e (TEv C m)) : PE X e (TOv C (mOf m)) := PEimp h fun σ H Q ⟨W, s, c, r, k⟩ =>
  ⟨W, s, c, r, by
    have z := Kont.bindO (show KontO C σ W ((m s c).bind fun r s c => .ok (.dv r.1) s c) Q from k)
    cases e : m s c with
    | ok a s' c' =>
      obtain ⟨d, b⟩ := a
      rw [e] at z
      intro W' v H' le r' q
      obtain ⟨W1, s1, c1, d1, b1, l, r1, q1, k1⟩ := z W' v H' le r' q
      obtain ⟨W2, l2, r2, p2⟩ := r1.freezeR q1
      exact k1 W2 v H' l2 r2 p2
    | ex x s' c' =>
      rw [e] at z
      exact z
    | bad =>
      rw [e] at z
      exact z⟩
/-- a flat value -/
theorem ve_con {e : Expr} {d : D} {v : V} (h : PE X e (tC v)) (r : ∀ G W, Rp G W d v) : PE X e (TEv C (mCon d)) := PEimp h fun σ H Q ⟨W, s, c, R, k⟩ =>
  k W v H (.refl W) R (.fz (r _ _))
end

/-! ### operators -/
/-- what a rule by values gives, by trees -/
def OpS (C : Cg) (r : R2) (f : D → D → Option (D × Bool)) : Prop := ∀ W s c σ H x y v u d b Q, Rel C W s c σ H → Rb C W H x v → Rb C W H y u → f x y = some (d, b) →
  (∀ W' v' H', W.le W' → Rel C W' s c σ H' → Rr C W' s σ H' d b v' → Q v' H') → r v u H Q
def m2 (f : D → D → Option (D × Bool)) (ma mb : MO) : ME := fun s c => (ma s c).bind fun od s c => (mb s c).bind fun oe s c => match od.get s c, oe.get s c with
  | some x, some y => (match f x y with
    | some r => .ok r s c
    | none => .bad)
  | _, _ => .bad
theorem OpS.run {C : Cg} {r : R2} {f : D → D → Option (D × Bool)} (h : OpS C r f) {W : Wd} {s : SL} {c : CL} {σ : St} {H : Hp} {v u : V} {od oe : Od} {Q : VK} (R : Rel C W s c σ H) (a : OdR C W σ od v) (b : OdR C W σ oe u)
    (k : Kont C σ W (match od.get s c, oe.get s c with
      | some x, some y => (match f x y with
        | some r => .ok r s c
        | none => .bad)
      | _, _ => .bad) Q) : r v u H Q := by
  cases e1 : od.get s c with
  | none => rw [e1] at k; exact k.elim
  | some x =>
    cases e2 : oe.get s c with
    | none => rw [e1, e2] at k; exact k.elim
    | some y =>
      rw [e1, e2] at k
      have k' : Kont C σ W (match f x y with
        | some r => .ok r s c
        | none => .bad) Q := k
      cases e3 : f x y with
      | none => rw [e3] at k'; exact k'.elim
      | some z =>
        rw [e3] at k'
        obtain ⟨d, b'⟩ := z
        exact h W s c σ H x y v u d b' Q R (a.read R e1) (b.read R e2) e3 k'
/-- two operands, then a rule by values -/
theorem t2_of {C : Cg} {r : R2} {f : D → D → Option (D × Bool)} (h : OpS C r f) {ma mb : MO} {σ : St} {H : Hp} {Q : VK} (q : TEv C (m2 f ma mb) σ H Q) : tOp r (TOv C ma) (TOv C mb) σ H Q := by
  obtain ⟨W, s, c, R, k⟩ := q
  refine ⟨W, s, c, R, ?_⟩
  have z := KontO.bind k
  cases e : ma s c with
  | bad => rw [e] at z; exact z
  | ex x s' c' => rw [e] at z; exact z
  | ok od s' c' =>
    rw [e] at z
    intro W1 v H1 l1 R1 q1
    obtain ⟨W2, s2, c2, od2, l2, R2, q2, k2⟩ := z W1 v H1 l1 R1 q1
    refine ⟨W2, s2, c2, R2, ?_⟩
    have z2 := KontO.bind k2
    cases e' : mb s2 c2 with
    | bad => rw [e'] at z2; exact z2
    | ex x s' c' => rw [e'] at z2; exact z2
    | ok oe s3 c3 =>
      rw [e'] at z2
      intro W3 u H3 l3 R3 q3
      obtain ⟨W4, s4, c4, oe4, l4, R4, q4, k4⟩ := z2 W3 u H3 l3 R3 q3
      exact h.run R4 (q2.mono l4) q4 k4
section
variable {X : Cx} {C : Cg} {a b : Expr} {pos : Pos} {ma mb : MO} {r : R2} {f : D → D → Option (D × Bool)}
theorem ve_bin {op : Operator} (ho : OpR X (binaryOp op) r) (h : OpS C r f) (ha : PE X a (TOv C ma)) (hb : PE X b (TOv C mb)) : PE X (.BinOp a op b pos) (TEv C (m2 f ma mb)) :=
  PEimp (pe_op ho ha hb) fun _ _ _ q => t2_of h q
theorem ve_cmp {op : CmpOp} (ho : OpR X (compareOp op) r) (h : OpS C r f) (ha : PE X a (TOv C ma)) (hb : PE X b (TOv C mb)) (hm : behindInMarks op b = false) : PE X (.Compare a [op] [b] pos) (TEv C (m2 f ma mb)) :=
  PEimp (pe_cmpR ho ha hb hm) fun _ _ _ q => t2_of h q
end
/-- the value of a bool -/
def kT (d : D) (s : SL) (c : CL) : Ot Bool := match d with
  | .bool b => .ok b s c
  | _ => .bad
def mT (m : ME) : MT := fun s c => (m s c).bind fun r s c => kT r.1 s c
theorem tB_of {C : Cg} {m : ME} {t : TE} (i : ∀ σ H Q, TEv C m σ H Q → t σ H Q) {σ : St} {H : Hp} {Q : Bool → Hp → Prop} (q : TTv C (mT m) σ H Q) : t σ H fun x H1 => ∃ k, x = .bl k ∧ Q k H1 := by
  obtain ⟨W, s, c, R, k⟩ := q
  refine i σ H _ ⟨W, s, c, R, ?_⟩
  have z := KontT.bind k
  cases e : m s c with
  | bad => rw [e] at z; exact z
  | ex x s' c' => rw [e] at z; exact z
  | ok d s' c' =>
    obtain ⟨d, b⟩ := d
    rw [e] at z
    intro W1 v H1 l1 R1 q1
    obtain ⟨W2, s2, c2, d2, b2, l2, R2, q2, k2⟩ := z W1 v H1 l1 R1 q1
    have k2' : KontT C σ W2 (kT d2 s2 c2) Q := k2
    cases d2 with
    | bool k =>
      obtain ⟨W3, l3, R3, p3⟩ := R2.freezeR q2
      cases p3
      exact ⟨k, rfl, k2' W3 H1 l3 R3⟩
    | _ => exact k2'.elim
section
variable {X : Cx} {C : Cg} {a b : Expr} {pos : Pos} {ma mb : MO} {r : R2} {f : D → D → Option (D × Bool)}
theorem vt_cmp {op : CmpOp} (ho : OpR X (compareOp op) r) (h : OpS C r f) (ha : PE X a (TOv C ma)) (hb : PE X b (TOv C mb)) (hm : behindInMarks op b = false) : PT X (.Compare a [op] [b] pos) (TTv C (mT (m2 f ma mb))) :=
  PTimp (pt_cmpR ho ha hb hm) fun _ _ _ q => tB_of (fun _ _ _ q => t2_of h q) q
end
end EV

set_option Elab.async false
set_option linter.all false
set_option maxRecDepth 100000
/-! EV 3: the operators on trees -/
namespace EV
open PySem PySem.Spec L2
open PyProof.Rows hiding St
abbrev DB := Option (D × Bool)
def fl (d : D) : DB := some (d, false)

/-! ### arithmetic -/
def dAdd : D → D → DB
  | .int i, .int j => fl (.int (i + j))
  | .str x, .str y => if x.length + y.length ≤ sizeLine then fl (.str (x ++ y)) else none
  | .lst xs, .lst ys => if xs.length + ys.length ≤ sizeLine then some (.lst (xs ++ ys), true) else none
  | .tup xs, .tup ys => if xs.length + ys.length ≤ sizeLine then fl (.tup (xs ++ ys)) else none
  | _, _ => none
def dSub : D → D → DB
  | .int i, .int j => fl (.int (i - j))
  | _, _ => none
instance (i j : Int) : Decidable (CMulX i j) := by unfold CMulX; infer_instance
/-- * of factors that are not both great -/
def CMulS (i j : Int) : Prop := ((-(2 ^ 64) < i ∧ i < 2 ^ 64) ∨ (-(2 ^ 64) < j ∧ j < 2 ^ 64)) ∨ CMulX i j
instance (i j : Int) : Decidable (CMulS i j) := by unfold CMulS; infer_instance
instance (i j : Int) : Decidable (CDivW i j) := by unfold CDivW; infer_instance
instance (i j : Int) : Decidable (CPow i j) := by unfold CPow; infer_instance
instance (i j : Int) : Decidable (CShl i j) := by unfold CShl; infer_instance
instance (i j : Int) : Decidable (CDiv i j) := by unfold CDiv; infer_instance
def dMul : D → D → DB
  | .int i, .int j => if CMulS i j then fl (.int (i * j)) else none
  | .lst xs, .int k => if -(2 ^ 63) ≤ k ∧ k < 2 ^ 63 ∧ xs.length * k.toNat ≤ sizeLine then some (.lst (List.replicate k.toNat xs).flatten, true) else none
  | .tup xs, .int k => if xs ≠ [] ∧ 2 ≤ k ∧ k ≤ 1000 ∧ xs.length ≤ 1000 then fl (.tup (List.replicate k.toNat xs).flatten) else none
  | _, _ => none
def dDiv : D → D → DB
  | .int i, .int j => if CDivW i j then fl (.int (i / j)) else none
  | _, _ => none
def dMod : D → D → DB
  | .int i, .int j => if 0 < j then fl (.int (i % j)) else none
  | _, _ => none
def dPow : D → D → DB
  | .int i, .int j => if CPow i j then fl (.int (i ^ j.toNat)) else none
  | _, _ => none
def dShl : D → D → DB
  | .int i, .int j => if CShl i j then fl (.int (i * 2 ^ j.toNat)) else none
  | _, _ => none
def dShr : D → D → DB
  | .int i, .int j => if 0 ≤ j then fl (.int (i / 2 ^ j.toNat)) else none
  | _, _ => none
def dAnd : D → D → DB
  | .int i, .int j => fl (.int (Builtin.bitAnd i j))
  | _, _ => none
def dOr : D → D → DB
  | .int i, .int j => fl (.int (Builtin.bitOr i j))
  | _, _ => none
def dXor : D → D → DB
  | .int i, .int j => fl (.int (Builtin.bitXor i j))
  | _, _ => none
/-! ### comparisons -/
mutual
def pyOf : D → Option PyData
  | .non => some .none
  | .bool b => some (.bool b)
  | .int i => some (.int i)
  | .str x => some (.str x)
  | .lst xs => (pyOfs xs).map .list
  | .tup xs => (pyOfs xs).map .tuple
  | _ => none
def pyOfs : List D → Option (List PyData)
  | [] => some []
  | x :: xs => match pyOf x, pyOfs xs with
    | some d, some ds => some (d :: ds)
    | _, _ => none
end
def dEqv (x y : D) : Option Bool := match pyOf x, pyOf y with
  | some d, some e => if SeqAt.shaped d = true ∧ SeqAt.shaped e = true then some (PyData.eqv d e) else none
  | _, _ => none
def dEqB : D → D → Option Bool
  | .non, .non => some true
  | .non, .int _ => some false
  | .int _, .non => some false
  | .non, .str _ => some false
  | .str _, .non => some false
  | .non, .bool _ => some false
  | .bool _, .non => some false
  | .int i, .int j => some (decide (i = j))
  | .bool i, .bool j => some (decide (i = j))
  | .str i, .str j => some (decide (i = j))
  | .int _, .str _ => some false
  | .str _, .int _ => some false
  | .bool _, .str _ => some false
  | .str _, .bool _ => some false
  | x, y => dEqv x y
def dEq (x y : D) : DB := (dEqB x y).bind fun b => fl (.bool b)
def dNe (x y : D) : DB := (dEqB x y).bind fun b => fl (.bool !b)
def dLt : D → D → DB
  | .int i, .int j => fl (.bool (decide (i < j)))
  | .str i, .str j => fl (.bool (decide (i.cps.toList < j.cps.toList)))
  | _, _ => none
def dLe : D → D → DB
  | .int i, .int j => fl (.bool (decide (i ≤ j)))
  | _, _ => none
def dGt : D → D → DB
  | .int i, .int j => fl (.bool (decide (j < i)))
  | _, _ => none
def dGe : D → D → DB
  | .int i, .int j => fl (.bool (decide (j ≤ i)))
  | _, _ => none
def dFlat : D → Bool
  | .non => true
  | .bool _ => true
  | .int _ => true
  | .str _ => true
  | _ => false
/-- == of flat values -/
def dEqF : D → D → Bool
  | .non, .non => true
  | .bool a, .bool b => a == b
  | .bool a, .int b => (if a then 1 else 0) == b
  | .int a, .bool b => a == (if b then 1 else 0)
  | .int a, .int b => a == b
  | .str a, .str b => a == b
  | _, _ => false
def dInL (x : D) (xs : List D) : Option Bool := if dFlat x = true ∧ xs.all dFlat = true then some (xs.any fun y => dEqF y x) else none
def dInB : D → D → Option Bool
  | .str x, .str y => some (!(Builtin.Str.occurrences y x 0 y.length 1).isEmpty)
  | x, .lst xs => dInL x xs
  | x, .tup xs => dInL x xs
  | _, _ => none
def dIn (x y : D) : DB := (dInB x y).bind fun b => fl (.bool b)
def dNotIn (x y : D) : DB := (dInB x y).bind fun b => fl (.bool !b)
def dIsN : D → D → DB
  | .non, .non => fl (.bool true)
  | .non, _ => none
  | _, .non => fl (.bool false)
  | _, _ => none
def dNotN : D → D → DB
  | .non, .non => fl (.bool false)
  | .non, _ => none
  | _, .non => fl (.bool true)
  | _, _ => none

section
variable {C : Cg} {W W' : Wd} {s : SL} {c : CL} {σ : St} {H : Hp} {d : D} {b : Bool} {v : V}
theorem Rps.dp_all (R : Rel C W s c σ H) : True := trivial
mutual
theorem Rp.dp (R : Rel C W s c σ H) : ∀ {d : D} {v : V} {p : PyData}, Rp C.G W d v → pyOf d = some p → Dp C.G.K H v p
  | .non, _, _, r, e => by
    cases r
    cases e
    exact .non
  | .bool b, _, _, r, e => by
    cases r
    cases e
    exact .bl b
  | .int b, _, _, r, e => by
    cases r
    cases e
    exact .int b
  | .str b, _, _, r, e => by
    cases r
    cases e
    exact .str b
  | .lst xs, _, p, r, e => by
    cases r with
    | lst h q =>
      have e' : (pyOfs xs).map PyData.list = some p := by simpa only [pyOf] using e
      cases z : pyOfs xs with
      | none => rw [z] at e'; cases e'
      | some ds =>
        rw [z] at e'
        cases e'
        exact .lst (SqL.of (R.sub _ _ h)) (Rps.dp R q z)
  | .tup xs, _, p, r, e => by
    cases r with
    | tup h q =>
      have e' : (pyOfs xs).map PyData.tuple = some p := by simpa only [pyOf] using e
      cases z : pyOfs xs with
      | none => rw [z] at e'; cases e'
      | some ds =>
        rw [z] at e'
        cases e'
        exact .tup (SqT.mono h R.sub) (Rps.dp R q z)
  | .cell _, _, _, _, e => by simp [pyOf] at e
  | .fn _, _, _, _, e => by simp [pyOf] at e
  | .rol _, _, _, _, e => by simp [pyOf] at e
  | .dct _, _, _, _, e => by simp [pyOf] at e
  | .dtt _, _, _, _, e => by simp [pyOf] at e
  | .ins _ _, _, _, _, e => by simp [pyOf] at e
theorem Rps.dp (R : Rel C W s c σ H) : ∀ {d : List D} {v : List V} {p : List PyData}, Rps C.G W d v → pyOfs d = some p → DpAll C.G.K H v p
  | [], _, _, r, e => by
    cases r
    cases e
    exact .nil
  | x :: xs, _, _, r, e => by
    cases r with
    | cons q t =>
      cases z : pyOf x with
      | none => simp [pyOfs, z] at e
      | some d =>
        cases y : pyOfs xs with
        | none => simp [pyOfs, z, y] at e
        | some ds =>
          simp [pyOfs, z, y] at e
          subst e
          exact .cons (Rp.dp R q z) (Rps.dp R t y)
end
theorem Rb.dp (R : Rel C W s c σ H) {p : PyData} (r : Rb C W H d v) (e : pyOf d = some p) : Dp C.G.K H v p := by
  rcases r with r | ⟨a, o, rfl, e2, e3⟩
  · exact Rp.dp R r e
  · cases d with
    | lst xs =>
      obtain ⟨vs, rfl, q⟩ := e3
      have e' : (pyOfs xs).map PyData.list = some p := by simpa only [pyOf] using e
      cases z : pyOfs xs with
      | none => rw [z] at e'; cases e'
      | some ds =>
        rw [z] at e'
        cases e'
        exact .lst (SqL.of e2) (Rps.dp R q z)
    | _ => first | exact e3.elim | simp [pyOf] at e
theorem Rp.flat {d : D} {v : V} (r : Rp C.G W d v) (f : dFlat d = true) : flatV v = true := by
  cases r <;> first | rfl | cases f
theorem Rps.flat {xs : List D} {vs : List V} (r : Rps C.G W xs vs) (f : xs.all dFlat = true) : vs.all flatV = true := by
  induction xs generalizing vs with
  | nil => cases r; rfl
  | cons x xs ih =>
    cases r with
    | cons a t =>
      rw [List.all_cons, Bool.and_eq_true] at f ⊢
      exact ⟨a.flat f.1, ih t f.2⟩
theorem Rp.eqF {d e : D} {v u : V} (r : Rp C.G W d v) (q : Rp C.G W e u) (f : dFlat d = true) (g : dFlat e = true) : eqV v u = dEqF d e := by
  cases r <;> first | (cases f; done) | (cases q <;> first | rfl | (cases g; done))
theorem Rps.inV {x : D} {u : V} (q : Rp C.G W x u) (g : dFlat x = true) {xs : List D} {vs : List V} (r : Rps C.G W xs vs) (f : xs.all dFlat = true) : inV u vs = xs.any fun y => dEqF y x := by
  unfold L2.inV
  induction xs generalizing vs with
  | nil => cases r; rfl
  | cons y xs ih =>
    cases r with
    | cons a t =>
      rw [List.all_cons, Bool.and_eq_true] at f
      rw [List.any_cons, List.any_cons, ih t f.2, a.eqF q f.1 g]
end
theorem some_fl {d e : D} {b : Bool} (h : fl d = some (e, b)) : e = d ∧ b = false := by
  unfold fl at h
  cases h
  exact ⟨rfl, rfl⟩
theorem b_fl {o : Option Bool} {f : Bool → D} {e : D} {b : Bool} (h : (o.bind fun b => fl (f b)) = some (e, b)) : ∃ k, o = some k ∧ e = f k ∧ b = false := by
  cases o with
  | none => cases h
  | some k =>
    obtain ⟨h1, h2⟩ := some_fl h
    exact ⟨k, rfl, h1, h2⟩
theorem if_some {p : Prop} [Decidable p] {x : DB} {y : D × Bool} (h : (if p then x else none) = some y) : p ∧ x = some y := by
  by_cases z : p
  · rw [if_pos z] at h
    exact ⟨z, h⟩
  · rw [if_neg z] at h
    cases h

section
variable {C : Cg}
/-- two ints -/
theorem ops_int {Cn : Int → Int → Prop} {g : Int → Int → D} {gv : Int → Int → V} {f : D → D → DB} (hg : ∀ G W i j, Rp G W (g i j) (gv i j))
    (hf : ∀ x y d b, f x y = some (d, b) → ∃ i j, x = .int i ∧ y = .int j ∧ Cn i j ∧ d = g i j ∧ b = false) : OpS C (fun x y H Q => ∃ i j, x = .int i ∧ y = .int j ∧ Cn i j ∧ Q (gv i j) H) f := by
  intro W s c σ H x y v u d b Q R a e h k
  obtain ⟨i, j, rfl, rfl, hc, rfl, rfl⟩ := hf _ _ _ _ h
  obtain rfl := a.int
  obtain rfl := e.int
  exact ⟨i, j, rfl, rfl, hc, k W _ H (.refl W) R (.fz (hg _ _ _ _))⟩
theorem ops_int0 {g : Int → Int → D} {gv : Int → Int → V} {f : D → D → DB} (hg : ∀ G W i j, Rp G W (g i j) (gv i j))
    (hf : ∀ x y d b, f x y = some (d, b) → ∃ i j, x = .int i ∧ y = .int j ∧ d = g i j ∧ b = false) : OpS C (fun x y H Q => ∃ i j, x = .int i ∧ y = .int j ∧ Q (gv i j) H) f := by
  intro W s c σ H x y v u d b Q R a e h k
  obtain ⟨i, j, rfl, rfl, rfl, rfl⟩ := hf _ _ _ _ h
  obtain rfl := a.int
  obtain rfl := e.int
  exact ⟨i, j, rfl, rfl, k W _ H (.refl W) R (.fz (hg _ _ _ _))⟩
theorem ops_sub : OpS C (rI0 fun i j => .int (i - j)) dSub := ops_int0 (g := fun i j => .int (i - j)) (fun _ _ _ _ => .int _) fun x y d b h => by
  cases x <;> first | (cases h; done) | (cases y <;> first | (cases h; done) | (obtain ⟨h1, h2⟩ := some_fl h; exact ⟨_, _, rfl, rfl, h1, h2⟩))
theorem ops_and : OpS C (rI0 fun i j => .int (Builtin.bitAnd i j)) dAnd := ops_int0 (g := fun i j => .int (Builtin.bitAnd i j)) (fun _ _ _ _ => .int _) fun x y d b h => by
  cases x <;> first | (cases h; done) | (cases y <;> first | (cases h; done) | (obtain ⟨h1, h2⟩ := some_fl h; exact ⟨_, _, rfl, rfl, h1, h2⟩))
theorem ops_or : OpS C (rI0 fun i j => .int (Builtin.bitOr i j)) dOr := ops_int0 (g := fun i j => .int (Builtin.bitOr i j)) (fun _ _ _ _ => .int _) fun x y d b h => by
  cases x <;> first | (cases h; done) | (cases y <;> first | (cases h; done) | (obtain ⟨h1, h2⟩ := some_fl h; exact ⟨_, _, rfl, rfl, h1, h2⟩))
theorem ops_xor : OpS C (rI0 fun i j => .int (Builtin.bitXor i j)) dXor := ops_int0 (g := fun i j => .int (Builtin.bitXor i j)) (fun _ _ _ _ => .int _) fun x y d b h => by
  cases x <;> first | (cases h; done) | (cases y <;> first | (cases h; done) | (obtain ⟨h1, h2⟩ := some_fl h; exact ⟨_, _, rfl, rfl, h1, h2⟩))
theorem ops_div : OpS C (rI CDivW fun i j => .int (i / j)) dDiv := ops_int (g := fun i j => .int (i / j)) (fun _ _ _ _ => .int _) fun x y d b h => by
  cases x <;> first | (cases h; done) | (cases y <;> first | (cases h; done) | (obtain ⟨h0, h⟩ := if_some h; obtain ⟨h1, h2⟩ := some_fl h; exact ⟨_, _, rfl, rfl, h0, h1, h2⟩))
theorem ops_mod : OpS C (rI (fun _ j => 0 < j) fun i j => .int (i % j)) dMod := ops_int (g := fun i j => .int (i % j)) (fun _ _ _ _ => .int _) fun x y d b h => by
  cases x <;> first | (cases h; done) | (cases y <;> first | (cases h; done) | (obtain ⟨h0, h⟩ := if_some h; obtain ⟨h1, h2⟩ := some_fl h; exact ⟨_, _, rfl, rfl, h0, h1, h2⟩))
theorem ops_pow : OpS C (rI CPow fun i j => .int (i ^ j.toNat)) dPow := ops_int (g := fun i j => .int (i ^ j.toNat)) (fun _ _ _ _ => .int _) fun x y d b h => by
  cases x <;> first | (cases h; done) | (cases y <;> first | (cases h; done) | (obtain ⟨h0, h⟩ := if_some h; obtain ⟨h1, h2⟩ := some_fl h; exact ⟨_, _, rfl, rfl, h0, h1, h2⟩))
theorem ops_shl : OpS C (rI CShl fun i j => .int (i * 2 ^ j.toNat)) dShl := ops_int (g := fun i j => .int (i * 2 ^ j.toNat)) (fun _ _ _ _ => .int _) fun x y d b h => by
  cases x <;> first | (cases h; done) | (cases y <;> first | (cases h; done) | (obtain ⟨h0, h⟩ := if_some h; obtain ⟨h1, h2⟩ := some_fl h; exact ⟨_, _, rfl, rfl, h0, h1, h2⟩))
theorem ops_shr : OpS C (rI (fun _ j => 0 ≤ j) fun i j => .int (i / 2 ^ j.toNat)) dShr := ops_int (g := fun i j => .int (i / 2 ^ j.toNat)) (fun _ _ _ _ => .int _) fun x y d b h => by
  cases x <;> first | (cases h; done) | (cases y <;> first | (cases h; done) | (obtain ⟨h0, h⟩ := if_some h; obtain ⟨h1, h2⟩ := some_fl h; exact ⟨_, _, rfl, rfl, h0, h1, h2⟩))
theorem ops_le : OpS C (rI0 fun i j => .bl (decide (i ≤ j))) dLe := ops_int0 (g := fun i j => .bool (decide (i ≤ j))) (fun _ _ _ _ => .bool _) fun x y d b h => by
  cases x <;> first | (cases h; done) | (cases y <;> first | (cases h; done) | (obtain ⟨h1, h2⟩ := some_fl h; exact ⟨_, _, rfl, rfl, h1, h2⟩))
theorem ops_gt : OpS C (rI0 fun i j => .bl (decide (j < i))) dGt := ops_int0 (g := fun i j => .bool (decide (j < i))) (fun _ _ _ _ => .bool _) fun x y d b h => by
  cases x <;> first | (cases h; done) | (cases y <;> first | (cases h; done) | (obtain ⟨h1, h2⟩ := some_fl h; exact ⟨_, _, rfl, rfl, h1, h2⟩))
theorem ops_ge : OpS C (rI0 fun i j => .bl (decide (j ≤ i))) dGe := ops_int0 (g := fun i j => .bool (decide (j ≤ i))) (fun _ _ _ _ => .bool _) fun x y d b h => by
  cases x <;> first | (cases h; done) | (cases y <;> first | (cases h; done) | (obtain ⟨h1, h2⟩ := some_fl h; exact ⟨_, _, rfl, rfl, h1, h2⟩))

def rLtS : R2 := fun x y H Q => ∃ i j, x = .str i ∧ y = .str j ∧ Q (.bl (decide (i.cps.toList < j.cps.toList))) H
def rLtA : R2 := fun x y H Q => (rI0 fun i j => .bl (decide (i < j))) x y H Q ∨ rLtS x y H Q
theorem op_ltA {X : Cx} : OpR X (compareOp .Lt) rLtA := op_lt.or op_lt_str
theorem ops_lt : OpS C rLtA dLt := by
  intro W s c σ H x y v u d b Q R a e h k
  cases x <;> first | (cases h; done) | skip
  · cases y <;> first | (cases h; done) | skip
    obtain ⟨rfl, rfl⟩ := some_fl h
    obtain rfl := a.int
    obtain rfl := e.int
    exact .inl ⟨_, _, rfl, rfl, k W _ H (.refl W) R (.fz (.bool _))⟩
  · cases y <;> first | (cases h; done) | skip
    obtain ⟨rfl, rfl⟩ := some_fl h
    obtain rfl := a.str
    obtain rfl := e.str
    exact .inr ⟨_, _, rfl, rfl, k W _ H (.refl W) R (.fz (.bool _))⟩

def rAddS2 : R2 := fun x y H Q => ∃ i j, x = .str i ∧ y = .str j ∧ i.length + j.length ≤ sizeLine ∧ Q (.str (i ++ j)) H
def rAddA (K : PySem.W.Frag) : R2 := fun x y H Q => (rI0 fun i j => .int (i + j)) x y H Q ∨ (fun x y H Q => rAddS2 x y H Q ∨ (fun x y H Q => rCat x y H Q ∨ rCatA K x y H Q) x y H Q) x y H Q
theorem op_addA {X : Cx} : OpR X (binaryOp .Add) (rAddA X.K) := op_add.or (op_add_str.or (op_cat.or op_catA))
theorem ops_add : OpS C (rAddA C.G.K) dAdd := by
  intro W s c σ H x y v u d b Q R a e h k
  cases x <;> first | (cases h; done) | skip
  · cases y <;> first | (cases h; done) | skip
    obtain ⟨rfl, rfl⟩ := some_fl h
    obtain rfl := a.int
    obtain rfl := e.int
    exact .inl ⟨_, _, rfl, rfl, k W _ H (.refl W) R (.fz (.int _))⟩
  · cases y <;> first | (cases h; done) | skip
    obtain ⟨h0, h⟩ := if_some h
    obtain ⟨rfl, rfl⟩ := some_fl h
    obtain rfl := a.str
    obtain rfl := e.str
    exact .inr (.inl ⟨_, _, rfl, rfl, h0, k W _ H (.refl W) R (.fz (.str _))⟩)
  · cases y <;> first | (cases h; done) | skip
    obtain ⟨h0, h⟩ := if_some h
    cases h
    obtain ⟨p, vs, rfl, h1, q1⟩ := a.lst R
    obtain ⟨p', us, rfl, h2, q2⟩ := e.lst R
    refine .inr (.inr (.inl ⟨_, _, _, _, rfl, rfl, h1, h2, by rw [← q1.length, ← q2.length]; exact h0, fun l hl => ?_⟩))
    obtain ⟨R', r'⟩ := R.new (d := .lst _) hl (show Obo C.G W (.lst _) (.lst (vs ++ us)) from ⟨_, rfl, q1.append q2⟩)
    exact k W _ _ (.refl W) R' r'
  · cases y <;> first | (cases h; done) | skip
    obtain ⟨h0, h⟩ := if_some h
    obtain ⟨rfl, rfl⟩ := some_fl h
    obtain ⟨p, vs, rfl, h1, q1⟩ := a.tup R
    obtain ⟨p', us, rfl, h2, q2⟩ := e.tup R
    have ra : ∀ {z}, Rp C.G W z (.ref p) → True := fun _ => trivial
    refine .inr (.inr (.inr ⟨_, _, _, _, rfl, rfl, h1, h2, by rw [← q1.length, ← q2.length]; exact h0, fun z => ?_, fun _ z => ?_, fun _ _ l hl => ?_⟩))
    · have hz := q1.nil_iff.mp z
      subst hz
      rcases e with e | ⟨_, _, _, _, e⟩
      · exact k W _ H (.refl W) R (.fz (by rw [List.nil_append]; exact e))
      · exact e.elim
    · have hz := q2.nil_iff.mp z
      subst hz
      rcases a with e | ⟨_, _, _, _, e⟩
      · exact k W _ H (.refl W) R (.fz (by rw [List.append_nil]; exact e))
      · exact e.elim
    · obtain ⟨le, R'⟩ := R.newF (o := .tup (vs ++ us)) hl
      exact k _ _ _ le R' (.fz (.tup (.inl (.inl upd_same)) ((q1.append q2).mono le)))

def rMulA (K : PySem.W.Frag) : R2 := fun x y H Q => (rI CMulS fun i j => .int (i * j)) x y H Q ∨ (fun x y H Q => rRep x y H Q ∨ rRepT K x y H Q) x y H Q
theorem op_mulS {X : Cx} : OpR X (binaryOp .Mult) (rI CMulS fun i j => .int (i * j)) := by
  intro pins s σ H x y v u Q I rx ry h
  obtain ⟨i, j, e1, e2, hc, q⟩ := h
  rcases hc with hc | hc
  · exact op_mul pins s σ H x y v u Q I rx ry ⟨i, j, e1, e2, hc, q⟩
  · exact op_mulX pins s σ H x y v u Q I rx ry ⟨i, j, e1, e2, hc, q⟩
theorem op_mulA {X : Cx} : OpR X (binaryOp .Mult) (rMulA X.K) := op_mulS.or (op_rep.or op_repT)
theorem ops_mul : OpS C (rMulA C.G.K) dMul := by
  intro W s c σ H x y v u d b Q R a e h k
  cases x <;> first | (cases h; done) | skip
  · cases y <;> first | (cases h; done) | skip
    obtain ⟨h0, h⟩ := if_some h
    obtain ⟨rfl, rfl⟩ := some_fl h
    obtain rfl := a.int
    obtain rfl := e.int
    exact .inl ⟨_, _, rfl, rfl, h0, k W _ H (.refl W) R (.fz (.int _))⟩
  · cases y <;> first | (cases h; done) | skip
    obtain ⟨⟨h0, h1, h2⟩, h⟩ := if_some h
    cases h
    obtain rfl := e.int
    obtain ⟨p, vs, rfl, g1, q1⟩ := a.lst R
    refine .inr (.inl ⟨_, _, _, rfl, rfl, g1, h0, h1, by rw [← q1.length]; exact h2, fun l hl => ?_⟩)
    obtain ⟨R', r'⟩ := R.new (d := .lst _) hl (show Obo C.G W (.lst _) (.lst _) from ⟨_, rfl, q1.rep _⟩)
    exact k W _ _ (.refl W) R' r'
  · cases y <;> first | (cases h; done) | skip
    obtain ⟨⟨h0, h1, h2, h3⟩, h⟩ := if_some h
    obtain ⟨rfl, rfl⟩ := some_fl h
    obtain rfl := e.int
    obtain ⟨p, vs, rfl, g1, q1⟩ := a.tup R
    refine .inr (.inr ⟨_, _, _, rfl, rfl, g1, fun z => h0 (q1.nil_iff.mp z), h1, h2, by rw [← q1.length]; exact h3, fun l hl => ?_⟩)
    obtain ⟨le, R'⟩ := R.newF (o := .tup _) hl
    exact k _ _ _ le R' (.fz (.tup (.inl (.inl upd_same)) ((q1.rep _).mono le)))

def rEqA (K : PySem.W.Frag) : R2 := fun x y H Q => rEq x y H Q ∨ rEqD K x y H Q
theorem op_eqA {X : Cx} (hu : X.A.units + 64 < cLine) : OpR X (compareOp .Eq) (rEqA X.K) := op_eq.or (op_eqD hu)
def rNeA (K : PySem.W.Frag) : R2 := fun x y H Q => rNe x y H Q ∨ rNeD K x y H Q
theorem op_neA {X : Cx} (hu : X.A.units + 64 < cLine) : OpR X (compareOp .NotEq) (rNeA X.K) := op_ne.or (op_neD hu)
/-- what an answer of dEqB says of the values -/
theorem eqB_of {W : Wd} {s : SL} {c : CL} {σ : St} {H : Hp} {x y : D} {v u : V} {k : Bool} (R : Rel C W s c σ H) (a : Rb C W H x v) (e : Rb C W H y u) (h : dEqB x y = some k) :
    (scal v u = true ∧ decide (v = u) = k) ∨ ∃ d e, Dp C.G.K H v d ∧ Dp C.G.K H u e ∧ SeqAt.shaped d = true ∧ SeqAt.shaped e = true ∧ PyData.eqv d e = k := by
  have gen : ∀ {z}, dEqv x y = some z → ∃ d e, Dp C.G.K H v d ∧ Dp C.G.K H u e ∧ SeqAt.shaped d = true ∧ SeqAt.shaped e = true ∧ PyData.eqv d e = z := fun {z} h => by
    unfold dEqv at h
    cases e1 : pyOf x with
    | none => rw [e1] at h; cases h
    | some d =>
      cases e2 : pyOf y with
      | none => rw [e1, e2] at h; cases h
      | some f =>
        rw [e1, e2] at h
        have h' : (if SeqAt.shaped d = true ∧ SeqAt.shaped f = true then some (PyData.eqv d f) else none) = some z := h
        by_cases t : SeqAt.shaped d = true ∧ SeqAt.shaped f = true
        · rw [if_pos t] at h'
          cases h'
          exact ⟨d, f, a.dp R e1, e.dp R e2, t.1, t.2, rfl⟩
        · rw [if_neg t] at h'
          cases h'
  cases x <;> cases y <;> first
    | exact .inr (gen h)
    | (first | obtain rfl := a.int | obtain rfl := a.str | obtain rfl := a.bool | obtain rfl := a.non
       first | obtain rfl := e.int | obtain rfl := e.str | obtain rfl := e.bool | obtain rfl := e.non
       refine .inl ⟨rfl, ?_⟩
       have h' := Option.some.inj h
       rw [← h']
       first | rfl | simp)
theorem ops_eq : OpS C (rEqA C.G.K) dEq := by
  intro W s c σ H x y v u d b Q R a e h k
  obtain ⟨z, hz, rfl, rfl⟩ := b_fl h
  rcases eqB_of R a e hz with ⟨h1, h2⟩ | ⟨d, f, h1, h2, h3, h4, h5⟩
  · refine .inl ⟨h1, ?_⟩
    rw [h2]
    exact k W _ H (.refl W) R (.fz (.bool _))
  · refine .inr ⟨d, f, h1, h2, h3, h4, ?_⟩
    rw [h5]
    exact k W _ H (.refl W) R (.fz (.bool _))
theorem ops_ne : OpS C (rNeA C.G.K) dNe := by
  intro W s c σ H x y v u d b Q R a e h k
  obtain ⟨z, hz, rfl, rfl⟩ := b_fl (f := fun b => .bool !b) h
  rcases eqB_of R a e hz with ⟨h1, h2⟩ | ⟨d, f, h1, h2, h3, h4, h5⟩
  · refine .inl ⟨h1, ?_⟩
    rw [h2]
    exact k W _ H (.refl W) R (.fz (.bool _))
  · refine .inr ⟨d, f, h1, h2, h3, h4, ?_⟩
    rw [h5]
    exact k W _ H (.refl W) R (.fz (.bool _))

def rInS2 (neg : Bool) : R2 := fun x y H Q => ∃ i j, x = .str i ∧ y = .str j ∧ Q (.bl (if neg then !(!(Builtin.Str.occurrences j i 0 j.length 1).isEmpty) else !(Builtin.Str.occurrences j i 0 j.length 1).isEmpty)) H
def rInA (K : PySem.W.Frag) (neg : Bool) : R2 := fun x y H Q => rInS2 neg x y H Q ∨ rIn K neg x y H Q
theorem op_inA {X : Cx} : OpR X (compareOp .In) (rInA X.K false) := OpR.or (r := rInS2 false) op_in_str op_in_seq
theorem op_notInA {X : Cx} : OpR X (compareOp .NotIn) (rInA X.K true) := OpR.or (r := rInS2 true) op_notin_str op_notIn_seq
theorem inB_of {W : Wd} {s : SL} {c : CL} {σ : St} {H : Hp} {x y : D} {v u : V} {k : Bool} {Q : VK} {neg : Bool} (R : Rel C W s c σ H) (a : Rb C W H x v) (e : Rb C W H y u) (h : dInB x y = some k)
    (q : Q (.bl (if neg then !k else k)) H) : rInA C.G.K neg v u H Q := by
  have flat : ∀ {x : D} {v : V}, Rb C W H x v → dFlat x = true → Rp C.G W x v := fun {x v} r f => by
    rcases r with r | ⟨_, _, _, _, e⟩
    · exact r
    · cases x <;> first | exact e.elim | cases f
  have seq : ∀ {xs : List D} {p : Addr} {vs : List V}, (SqL C.G.K H p vs ∨ SqT C.G.K H p vs) → Rps C.G W xs vs → dInL x xs = some k → rIn C.G.K neg v (.ref p) H Q := fun {xs p vs} hs r h => by
    unfold dInL at h
    by_cases t : dFlat x = true ∧ xs.all dFlat = true
    · rw [if_pos t] at h
      have e1 := Option.some.inj h
      have a' := flat a t.1
      refine ⟨p, vs, rfl, hs, a'.flat t.1, r.flat t.2, ?_⟩
      rw [Rps.inV a' t.1 r t.2, e1]
      exact q
    · rw [if_neg t] at h
      cases h
  have lst : ∀ {xs : List D}, y = .lst xs → dInL x xs = some k → rInA C.G.K neg v u H Q := fun {xs} hy hk => by
    subst hy
    obtain ⟨p, vs, rfl, h1, q1⟩ := e.lst R
    exact .inr (seq (.inl (SqL.of h1)) q1 hk)
  have tup : ∀ {xs : List D}, y = .tup xs → dInL x xs = some k → rInA C.G.K neg v u H Q := fun {xs} hy hk => by
    subst hy
    obtain ⟨p, vs, rfl, h1, q1⟩ := e.tup R
    exact .inr (seq (.inr h1) q1 hk)
  cases y with
  | lst xs => exact lst rfl (by cases x <;> exact h)
  | tup xs => exact tup rfl (by cases x <;> exact h)
  | str j =>
    cases x <;> first | (cases h; done) | skip
    obtain rfl := a.str
    obtain rfl := e.str
    have e1 := Option.some.inj h
    refine .inl ⟨_, _, rfl, rfl, ?_⟩
    rw [e1]
    exact q
  | _ => cases x <;> cases h
theorem ops_in : OpS C (rInA C.G.K false) dIn := by
  intro W s c σ H x y v u d b Q R a e h k
  obtain ⟨z, hz, rfl, rfl⟩ := b_fl h
  exact inB_of R a e hz (k W _ H (.refl W) R (.fz (.bool _)))
theorem ops_notIn : OpS C (rInA C.G.K true) dNotIn := by
  intro W s c σ H x y v u d b Q R a e h k
  obtain ⟨z, hz, rfl, rfl⟩ := b_fl (f := fun b => .bool !b) h
  exact inB_of R a e hz (k W _ H (.refl W) R (.fz (.bool _)))
theorem Rb.notNon {W : Wd} {H : Hp} {x : D} {v : V} (r : Rb C W H x v) (h : x ≠ .non) : decide (v = .non) = false := by
  rcases r with r | ⟨_, _, rfl, _, _⟩
  · cases r <;> first | rfl | exact absurd rfl h
  · rfl
theorem ops_isN : OpS C (fun x y H Q => y = .non ∧ Q (.bl (decide (x = .non))) H) dIsN := by
  intro W s c σ H x y v u d b Q R a e h k
  cases y <;> first | (cases x <;> cases h; done) | skip
  obtain rfl := e.non
  refine ⟨rfl, ?_⟩
  by_cases hx : x = .non
  · subst hx
    obtain ⟨rfl, rfl⟩ := some_fl h
    obtain rfl := a.non
    exact k W _ H (.refl W) R (.fz (.bool _))
  · rw [a.notNon hx]
    have h' : fl (.bool false) = some (d, b) := by cases x <;> first | exact h | exact absurd rfl hx
    obtain ⟨rfl, rfl⟩ := some_fl h'
    exact k W _ H (.refl W) R (.fz (.bool _))
theorem ops_notN : OpS C (fun x y H Q => y = .non ∧ Q (.bl (!decide (x = .non))) H) dNotN := by
  intro W s c σ H x y v u d b Q R a e h k
  cases y <;> first | (cases x <;> cases h; done) | skip
  obtain rfl := e.non
  refine ⟨rfl, ?_⟩
  by_cases hx : x = .non
  · subst hx
    obtain ⟨rfl, rfl⟩ := some_fl h
    obtain rfl := a.non
    exact k W _ H (.refl W) R (.fz (.bool _))
  · rw [a.notNon hx]
    have h' : fl (.bool true) = some (d, b) := by cases x <;> first | exact h | exact absurd rfl hx
    obtain ⟨rfl, rfl⟩ := some_fl h'
    exact k W _ H (.refl W) R (.fz (.bool _))
end
end EV

set_option Elab.async false
set_option linter.all false
set_option maxRecDepth 100000
/-! EV 4: arguments, calls of built-in things, places and slices, displays, tests -/
namespace EV
open PySem PySem.Spec L2
open PyProof.Rows hiding St

/-! ### arguments -/
abbrev MA := SL → CL → Ot (List Od)
inductive OdRs (C : Cg) (W : Wd) (σ : St) : List Od → List V → Prop
  | nil : OdRs C W σ [] []
  | cons {o : Od} {v : V} {os : List Od} {vs : List V} : OdR C W σ o v → OdRs C W σ os vs → OdRs C W σ (o :: os) (v :: vs)
inductive Rbs (C : Cg) (W : Wd) (H : Hp) : List D → List V → Prop
  | nil : Rbs C W H [] []
  | cons {o : D} {v : V} {os : List D} {vs : List V} : Rb C W H o v → Rbs C W H os vs → Rbs C W H (o :: os) (v :: vs)
def getAll (s : SL) (c : CL) : List Od → Option (List D)
  | [] => some []
  | o :: os => match o.get s c, getAll s c os with
    | some d, some ds => some (d :: ds)
    | _, _ => none
theorem OdRs.mono {C : Cg} {W W' : Wd} {σ : St} (h : W.le W') {os : List Od} {vs : List V} (r : OdRs C W σ os vs) : OdRs C W' σ os vs := by
  induction r with
  | nil => exact .nil
  | cons a t ih => exact .cons (a.mono h) ih
theorem OdRs.read {C : Cg} {W : Wd} {s : SL} {c : CL} {σ : St} {H : Hp} (r : Rel C W s c σ H) {os : List Od} {vs : List V} (q : OdRs C W σ os vs) {ds : List D} (g : getAll s c os = some ds) : Rbs C W H ds vs := by
  induction q generalizing ds with
  | nil => cases g; exact .nil
  | @cons o v os vs a t ih =>
    unfold getAll at g
    cases e1 : o.get s c with
    | none => rw [e1] at g; cases g
    | some d =>
      cases e2 : getAll s c os with
      | none => rw [e1, e2] at g; cases g
      | some es =>
        rw [e1, e2] at g
        cases g
        exact .cons (a.read r e1) (ih e2)
def KontA (C : Cg) (σ : St) (W : Wd) (o : Ot (List Od)) (Q : List V → Hp → Prop) : Prop := match o with
  | .ok ods s' c' => ∀ W' vs H', W.le W' → Rel C W' s' c' σ H' → OdRs C W' σ ods vs → Q vs H'
  | .ex x s' c' => ∀ W' H', W.le W' → Rel C W' s' c' σ H' → C.KX x W' s' c' H'
  | .bad => False
def TAv (C : Cg) (m : MA) : TA := fun σ H Q => ∃ W s c, Rel C W s c σ H ∧ KontA C σ W (m s c) Q
def aNil : MA := fun s c => .ok [] s c
def aCons (m : MO) (r : MA) : MA := fun s c => (m s c).bind fun od s c => (r s c).bind fun ods s c => .ok (od :: ods) s c
theorem PAimp {X : Cx} {es : List Expr} {t t' : TA} (h : PA X es t) (i : ∀ σ H Q, t' σ H Q → t σ H Q) : PA X es t' := ⟨fun pos pins s σ H Q I q => h.run pos pins s σ H Q I (i σ H Q q)⟩
section
variable {C : Cg} {W W' : Wd} {s : SL} {c : CL} {σ : St} {H : Hp}
theorem KontA.up {o : Ot (List Od)} {Q : List V → Hp → Prop} (h : W.le W') (k : KontA C σ W o Q) : KontA C σ W' o Q := by
  cases o with
  | ok a s' c' => exact fun W2 v H' l => k W2 v H' (h.trans l)
  | ex x s' c' => exact fun W2 H' l => k W2 H' (h.trans l)
  | bad => exact k
theorem KontO.bindA {o : Ot Od} {k : Od → SL → CL → Ot (List Od)} {Q : List V → Hp → Prop} (h : KontA C σ W (o.bind k) Q) :
    KontO C σ W o fun v H1 => ∃ W1 s1 c1 od, W.le W1 ∧ Rel C W1 s1 c1 σ H1 ∧ OdR C W1 σ od v ∧ KontA C σ W1 (k od s1 c1) Q := by
  cases o with
  | ok a s' c' => exact fun W1 v H1 l r q => ⟨W1, s', c', a, l, r, q, KontA.up l h⟩
  | ex x s' c' => exact h
  | bad => exact h
theorem KontA.bindA {o : Ot (List Od)} {k : List Od → SL → CL → Ot (List Od)} {Q : List V → Hp → Prop} (h : KontA C σ W (o.bind k) Q) :
    KontA C σ W o fun vs H1 => ∃ W1 s1 c1 ods, W.le W1 ∧ Rel C W1 s1 c1 σ H1 ∧ OdRs C W1 σ ods vs ∧ KontA C σ W1 (k ods s1 c1) Q := by
  cases o with
  | ok a s' c' => exact fun W1 v H1 l r q => ⟨W1, s', c', a, l, r, q, KontA.up l h⟩
  | ex x s' c' => exact h
  | bad => exact h
theorem KontA.bind {o : Ot (List Od)} {k : List Od → SL → CL → Ot (D × Bool)} {Q : VK} (h : Kont C σ W (o.bind k) Q) :
    KontA C σ W o fun vs H1 => ∃ W1 s1 c1 ods, W.le W1 ∧ Rel C W1 s1 c1 σ H1 ∧ OdRs C W1 σ ods vs ∧ Kont C σ W1 (k ods s1 c1) Q := by
  cases o with
  | ok a s' c' => exact fun W1 v H1 l r q => ⟨W1, s', c', a, l, r, q, Kont.up l h⟩
  | ex x s' c' => exact h
  | bad => exact h
/-- the outcome o, then whatever holds behind it -/
theorem KontO.thn {o : Ot Od} {Q Q' : VK} (h : KontO C σ W o Q) (i : ∀ v H, Q v H → Q' v H) : KontO C σ W o Q' := by
  cases o with
  | ok a s' c' => exact fun W1 v H1 l r q => i _ _ (h W1 v H1 l r q)
  | ex x s' c' => exact h
  | bad => exact h
theorem KontA.thn {o : Ot (List Od)} {Q Q' : List V → Hp → Prop} (h : KontA C σ W o Q) (i : ∀ v H, Q v H → Q' v H) : KontA C σ W o Q' := by
  cases o with
  | ok a s' c' => exact fun W1 v H1 l r q => i _ _ (h W1 v H1 l r q)
  | ex x s' c' => exact h
  | bad => exact h
theorem Kont.thn {o : Ot (D × Bool)} {Q Q' : VK} (h : Kont C σ W o Q) (i : ∀ v H, Q v H → Q' v H) : Kont C σ W o Q' := by
  cases o with
  | ok a s' c' =>
    obtain ⟨d, b⟩ := a
    exact fun W1 v H1 l r q => i _ _ (h W1 v H1 l r q)
  | ex x s' c' => exact h
  | bad => exact h
theorem KontT.thn {o : Ot Bool} {Q Q' : Bool → Hp → Prop} (h : KontT C σ W o Q) (i : ∀ v H, Q v H → Q' v H) : KontT C σ W o Q' := by
  cases o with
  | ok a s' c' => exact fun W1 H1 l r => i _ _ (h W1 H1 l r)
  | ex x s' c' => exact h
  | bad => exact h
end
def noStar : Expr → Bool
  | .Starred _ _ => false
  | _ => true
theorem star_no {e : Expr} {es : List Expr} {env : Env} (h : noStar e = true) : starEach (e :: es) env = (false, eval e env) :: starEach es env := by
  cases e <;> first | rfl | cases h
theorem back_no {env : Env} {pos : Pos} : ∀ {es : List Expr}, es.all noStar = true → (backTo pos (starEach es env)).any (·.1) = false
  | [], _ => rfl
  | e :: es, h => by
    rw [List.all_cons, Bool.and_eq_true] at h
    rw [star_no h.1]
    show (false || (backTo pos (starEach es env)).any (·.1)) = false
    rw [back_no h.2]
    rfl
section
variable {X : Cx} {C : Cg} {e : Expr} {es : List Expr} {pos : Pos}
theorem va_nil : PA X [] (TAv C aNil) := PAimp pa_nil fun σ H Q ⟨W, s, c, R, k⟩ => k W [] H (.refl W) R .nil
theorem va_cons {mo : MO} {ma : MA} (hs : noStar e = true) (he : PE X e (TOv C mo)) (ha : PA X es (TAv C ma)) : PA X (e :: es) (TAv C (aCons mo ma)) := PAimp (pa_cons he ha (star_no hs)) fun σ H Q ⟨W, s, c, R, k⟩ => by
  refine ⟨W, s, c, R, (KontO.bindA k).thn fun v H1 ⟨W1, s1, c1, od, l1, R1, q1, k1⟩ => ?_⟩
  refine ⟨W1, s1, c1, R1, (KontA.bindA k1).thn fun vs H2 ⟨W2, s2, c2, ods, l2, R2, q2, k2⟩ => ?_⟩
  exact k2 W2 _ H2 (.refl W2) R2 (.cons (q1.mono l2) q2)
end
/-- a call by values, by trees -/
def CallS (C : Cg) (r : List V → Hp → VK → Prop) (f : List D → DB) : Prop := ∀ W s c σ H vs ds d b Q, Rel C W s c σ H → Rbs C W H ds vs → f ds = some (d, b) →
  (∀ W' v' H', W.le W' → Rel C W' s c σ H' → Rr C W' s σ H' d b v' → Q v' H') → r vs H Q
def kDB (o : DB) (s : SL) (c : CL) : Ot (D × Bool) := match o with
  | some r => .ok r s c
  | none => .bad
def mCB (f : List D → DB) (m : MA) : ME := fun s c => (m s c).bind fun ods s c => kDB ((getAll s c ods).bind f) s c
theorem CallS.run {C : Cg} {r : List V → Hp → VK → Prop} {f : List D → DB} (h : CallS C r f) {W : Wd} {s : SL} {c : CL} {σ : St} {H : Hp} {vs : List V} {ods : List Od} {Q : VK} (R : Rel C W s c σ H) (a : OdRs C W σ ods vs)
    (k : Kont C σ W (kDB ((getAll s c ods).bind f) s c) Q) : r vs H Q := by
  cases e1 : getAll s c ods with
  | none => rw [e1] at k; exact k.elim
  | some ds =>
    rw [e1] at k
    have k' : Kont C σ W (kDB (f ds) s c) Q := k
    cases e3 : f ds with
    | none => rw [e3] at k'; exact k'.elim
    | some z =>
      rw [e3] at k'
      obtain ⟨d, b⟩ := z
      exact h W s c σ H vs ds d b Q R (a.read R e1) e3 k'
theorem tCB_of {C : Cg} {r : List V → Hp → VK → Prop} {f : List D → DB} (h : CallS C r f) {m : MA} {σ : St} {H : Hp} {Q : VK} (q : TEv C (mCB f m) σ H Q) : tCB r (TAv C m) σ H Q := by
  obtain ⟨W, s, c, R, k⟩ := q
  exact ⟨W, s, c, R, (KontA.bind k).thn fun vs H1 ⟨W1, s1, c1, ods, l1, R1, q1, k1⟩ => h.run R1 q1 k1⟩
section
variable {X : Cx} {C : Cg} {e : Expr} {es : List Expr} {p pos : Pos} {x : Str} {m : MA} {r : List V → Hp → VK → Prop} {f : List D → DB}
theorem ve_callB {id : String} (hc : CallR X (.builtin id) r) (h : CallS C r f) (hg : Gl X x) (hm : X.mg x = none) (hv : bootBuiltins x = some (.builtin id)) (hs : (e :: es).all noStar = true) (ha : PA X (e :: es) (TAv C m)) (hn : x ≠ "__name__") (hdb : (x == ("__debug__" : Str)) = false) :
    PE X (.Call (.Name x p) (e :: es) [] pos) (TEv C (mCB f m)) := by
  have hs' := hs
  rw [List.all_cons, Bool.and_eq_true] at hs'
  exact PEimp (pe_callB hc hg hm hv ha hn hdb (star_no hs'.1) (back_no hs'.2)) fun _ _ _ q => tCB_of h q
theorem ve_callTy {T : String} (hc : CallR X (.type T) r) (h : CallS C r f) (hg : Gl X x) (hm : X.mg x = none) (hv : bootBuiltins x = some (.type T)) (hs : (e :: es).all noStar = true) (ha : PA X (e :: es) (TAv C m)) (hn : x ≠ "__name__") (hdb : (x == ("__debug__" : Str)) = false) :
    PE X (.Call (.Name x p) (e :: es) [] pos) (TEv C (mCB f m)) := by
  have hs' := hs
  rw [List.all_cons, Bool.and_eq_true] at hs'
  exact PEimp (pe_callTy hc hg hm hv ha hn hdb (star_no hs'.1) (back_no hs'.2)) fun _ _ _ q => tCB_of h q
end

/-! ### built-in functions by trees -/
def dLen : List D → DB
  | [.str x] => if x.length ≤ sizeLine then fl (.int x.length) else none
  | [.lst xs] => fl (.int xs.length)
  | [.rol xs] => fl (.int xs.length)
  | [.tup xs] => fl (.int xs.length)
  | [.dct xs] => fl (.int xs.length)
  | _ => none
def dAbs : List D → DB
  | [.int i] => fl (.int (if i < 0 then -i else i))
  | _ => none
def dInt : List D → DB
  | [.int i] => fl (.int i)
  | [.bool k] => fl (.int (if k then 1 else 0))
  | _ => none
def dStr : List D → DB
  | [.int i] => if i.natAbs.log2 < 1920 then fl (.str (toString i)) else none
  | _ => none
def dMax2 : List D → DB
  | [.int i, .int j] => fl (.int (if j > i then j else i))
  | _ => none
def dMin2 : List D → DB
  | [.int i, .int j] => fl (.int (if j < i then j else i))
  | _ => none
def dList : List D → DB
  | [.lst xs] => some (.lst xs, true)
  | [.rol xs] => some (.lst xs, true)
  | [.tup xs] => some (.lst xs, true)
  | _ => none
def dTuple : List D → DB
  | [.lst xs] => fl (.tup xs)
  | [.rol xs] => fl (.tup xs)
  | [.tup xs] => fl (.tup xs)
  | _ => none
def dDivmod : List D → DB
  | [.int i, .int j] => if CDiv i j then fl (.tup [.int (i / j), .int (i % j)]) else none
  | _ => none
/-- all items are bools -/
def dBools : List D → Option (List Bool)
  | [] => some []
  | .bool b :: xs => (dBools xs).map (b :: ·)
  | _ => none
def dAll : List D → DB
  | [.lst xs] => (dBools xs).bind fun bs => fl (.bool (bs.all id))
  | _ => none
def dAny : List D → DB
  | [.lst xs] => (dBools xs).bind fun bs => fl (.bool (bs.any id))
  | _ => none
def dInts : List D → Option (List Int)
  | [] => some []
  | .int i :: xs => (dInts xs).map (i :: ·)
  | _ => none
def dStrs : List D → Option (List Str)
  | [] => some []
  | .str i :: xs => (dStrs xs).map (i :: ·)
  | _ => none
def dSum : List D → DB
  | [.lst xs] => (dInts xs).bind fun ns => fl (.int ns.sum)
  | _ => none
def maxI : List Int → Option Int
  | [] => none
  | x :: xs => match maxI xs with
    | none => some x
    | some m => some (if m > x then m else x)
def minI : List Int → Option Int
  | [] => none
  | x :: xs => match minI xs with
    | none => some x
    | some m => some (if m < x then m else x)
def dMax1 : List D → DB
  | [.lst xs] => (dInts xs).bind fun ns => (maxI ns).bind fun m => fl (.int m)
  | [.tup xs] => none
  | _ => none
def dMin1 : List D → DB
  | [.lst xs] => (dInts xs).bind fun ns => (minI ns).bind fun m => fl (.int m)
  | _ => none
/-- insertion into a rising list -/
def insI (x : Int) : List Int → List Int
  | [] => [x]
  | y :: ys => if x ≤ y then x :: y :: ys else y :: insI x ys
def sortI : List Int → List Int
  | [] => []
  | x :: xs => insI x (sortI xs)
def leS (x y : Str) : Bool := !decide (y.cps.toList < x.cps.toList)
def insS (x : Str) : List Str → List Str
  | [] => [x]
  | y :: ys => if leS x y = true then x :: y :: ys else y :: insS x ys
def sortS : List Str → List Str
  | [] => []
  | x :: xs => insS x (sortS xs)
def dSorted : List D → DB
  | [.lst xs] => match dInts xs with
    | some ns => some (.lst ((sortI ns).map .int), true)
    | none => match dStrs xs with
      | some zs => if zs.length < 64 then some (.lst ((sortS zs).map .str), true) else none
      | none => none
  | _ => none
section
variable {C : Cg} {W : Wd} {H : Hp}
theorem Rps.bools : ∀ {xs : List D} {vs : List V} {bs : List Bool}, Rps C.G W xs vs → dBools xs = some bs → vs = bs.map V.bl
  | [], _, _, r, e => by
    cases r
    cases e
    rfl
  | x :: xs, _, bs, r, e => by
    cases r with
    | cons a t =>
      cases x with
      | bool b =>
        have e' : (dBools xs).map (b :: ·) = some bs := e
        cases z : dBools xs with
        | none => rw [z] at e'; cases e'
        | some cs =>
          rw [z] at e'
          cases e'
          cases a
          rw [Rps.bools t z]
          rfl
      | _ => cases e
theorem Rps.ints : ∀ {xs : List D} {vs : List V} {bs : List Int}, Rps C.G W xs vs → dInts xs = some bs → vs = bs.map V.int
  | [], _, _, r, e => by
    cases r
    cases e
    rfl
  | x :: xs, _, bs, r, e => by
    cases r with
    | cons a t =>
      cases x with
      | int b =>
        have e' : (dInts xs).map (b :: ·) = some bs := e
        cases z : dInts xs with
        | none => rw [z] at e'; cases e'
        | some cs =>
          rw [z] at e'
          cases e'
          cases a
          rw [Rps.ints t z]
          rfl
      | _ => cases e
theorem Rps.strs : ∀ {xs : List D} {vs : List V} {bs : List Str}, Rps C.G W xs vs → dStrs xs = some bs → vs = bs.map V.str
  | [], _, _, r, e => by
    cases r
    cases e
    rfl
  | x :: xs, _, bs, r, e => by
    cases r with
    | cons a t =>
      cases x with
      | str b =>
        have e' : (dStrs xs).map (b :: ·) = some bs := e
        cases z : dStrs xs with
        | none => rw [z] at e'; cases e'
        | some cs =>
          rw [z] at e'
          cases e'
          cases a
          rw [Rps.strs t z]
          rfl
      | _ => cases e
theorem Rps.ofInts : ∀ ns : List Int, Rps C.G W (ns.map .int) (ns.map V.int)
  | [] => .nil
  | n :: ns => .cons (.int n) (Rps.ofInts ns)
theorem Rps.ofStrs : ∀ ns : List Str, Rps C.G W (ns.map .str) (ns.map V.str)
  | [] => .nil
  | n :: ns => .cons (.str n) (Rps.ofStrs ns)
end
theorem maxI_ok : ∀ {ns : List Int} {m k : Int}, maxI ns = some m → k ∈ ns → (∀ y ∈ ns, y ≤ k) → k = m
  | [], _, _, h, _, _ => by cases h
  | x :: xs, m, k, h, hk, hm => by
    unfold maxI at h
    have key : ∀ {ns : List Int} {m : Int}, maxI ns = some m → m ∈ ns ∧ ∀ y ∈ ns, y ≤ m := by
      intro ns
      induction ns with
      | nil => intro m h; cases h
      | cons x xs ih =>
        intro m h
        unfold maxI at h
        cases e : maxI xs with
        | none =>
          rw [e] at h
          cases h
          have : xs = [] := by
            cases xs with
            | nil => rfl
            | cons y ys =>
              unfold maxI at e
              cases e2 : maxI ys <;> rw [e2] at e <;> cases e
          subst this
          simp
        | some m' =>
          rw [e] at h
          cases h
          obtain ⟨h1, h2⟩ := ih e
          by_cases g : m' > x
          · rw [if_pos g]
            exact ⟨List.mem_cons_of_mem _ h1, fun y hy => by
              rcases List.mem_cons.mp hy with rfl | hy
              · omega
              · exact h2 y hy⟩
          · rw [if_neg g]
            exact ⟨List.mem_cons_self, fun y hy => by
              rcases List.mem_cons.mp hy with rfl | hy
              · omega
              · have := h2 y hy; omega⟩
    obtain ⟨h1, h2⟩ := key (ns := x :: xs) (m := m) (by unfold maxI; exact h)
    have a := hm m h1
    have b := h2 k hk
    omega
theorem minI_ok : ∀ {ns : List Int} {m k : Int}, minI ns = some m → k ∈ ns → (∀ y ∈ ns, k ≤ y) → k = m
  | [], _, _, h, _, _ => by cases h
  | x :: xs, m, k, h, hk, hm => by
    unfold minI at h
    have key : ∀ {ns : List Int} {m : Int}, minI ns = some m → m ∈ ns ∧ ∀ y ∈ ns, m ≤ y := by
      intro ns
      induction ns with
      | nil => intro m h; cases h
      | cons x xs ih =>
        intro m h
        unfold minI at h
        cases e : minI xs with
        | none =>
          rw [e] at h
          cases h
          have : xs = [] := by
            cases xs with
            | nil => rfl
            | cons y ys =>
              unfold minI at e
              cases e2 : minI ys <;> rw [e2] at e <;> cases e
          subst this
          simp
        | some m' =>
          rw [e] at h
          cases h
          obtain ⟨h1, h2⟩ := ih e
          by_cases g : m' < x
          · rw [if_pos g]
            exact ⟨List.mem_cons_of_mem _ h1, fun y hy => by
              rcases List.mem_cons.mp hy with rfl | hy
              · omega
              · exact h2 y hy⟩
          · rw [if_neg g]
            exact ⟨List.mem_cons_self, fun y hy => by
              rcases List.mem_cons.mp hy with rfl | hy
              · omega
              · have := h2 y hy; omega⟩
    obtain ⟨h1, h2⟩ := key (ns := x :: xs) (m := m) (by unfold minI; exact h)
    have a := hm m h1
    have b := h2 k hk
    omega
/-! ### sorting: a rising list of these items is this one -/
theorem insI_perm (x : Int) : ∀ l : List Int, (insI x l).Perm (x :: l)
  | [] => .refl _
  | y :: ys => by
    unfold insI
    split
    · exact .refl _
    · exact ((insI_perm x ys).cons y).trans (.swap x y ys)
theorem sortI_perm : ∀ l : List Int, (sortI l).Perm l
  | [] => .refl _
  | x :: xs => (insI_perm x _).trans ((sortI_perm xs).cons x)
theorem insI_rise (x : Int) : ∀ {l : List Int}, l.Pairwise (· ≤ ·) → (insI x l).Pairwise (· ≤ ·)
  | [], _ => by simp [insI]
  | y :: ys, h => by
    unfold insI
    rw [List.pairwise_cons] at h
    split
    · rename_i g
      refine List.pairwise_cons.mpr ⟨fun z hz => ?_, List.pairwise_cons.mpr h⟩
      rcases List.mem_cons.mp hz with rfl | hz
      · exact g
      · have := h.1 z hz; omega
    · rename_i g
      refine List.pairwise_cons.mpr ⟨fun z hz => ?_, insI_rise x h.2⟩
      rcases List.mem_cons.mp ((insI_perm x ys).mem_iff.mp hz) with rfl | hz
      · omega
      · exact h.1 z hz
theorem sortI_rise : ∀ l : List Int, (sortI l).Pairwise (· ≤ ·)
  | [] => .nil
  | x :: xs => insI_rise x (sortI_rise xs)
theorem perm_rise {α : Type} {r : α → α → Prop} (anti : ∀ a b, r a b → r b a → a = b) : ∀ {l k : List α}, l.Perm k → l.Pairwise r → k.Pairwise r → l = k
  | [], k, p, _, _ => by
    have := p.length_eq
    cases k with
    | nil => rfl
    | cons a b => simp at this
  | x :: xs, [], p, _, _ => by
    have := p.length_eq
    simp at this
  | x :: xs, y :: ys, p, h1, h2 => by
    rw [List.pairwise_cons] at h1 h2
    have e : x = y := by
      have hx : x ∈ y :: ys := p.mem_iff.mp List.mem_cons_self
      have hy : y ∈ x :: xs := p.mem_iff.mpr List.mem_cons_self
      rcases List.mem_cons.mp hx with e | hx
      · exact e
      · rcases List.mem_cons.mp hy with e | hy
        · exact e.symm
        · exact anti _ _ (h1.1 y hy) (h2.1 x hx)
    subst e
    rw [perm_rise anti (List.Perm.cons_inv p) h1.2 h2.2]
theorem sortI_uniq {l k : List Int} (p : l.Perm k) (h : l.Pairwise (· ≤ ·)) : l = sortI k :=
  perm_rise (r := (· ≤ ·)) (fun a b h1 h2 => Int.le_antisymm h1 h2) (p.trans (sortI_perm k).symm) h (sortI_rise k)
end EV

set_option Elab.async false
set_option linter.all false
set_option maxRecDepth 100000
/-! EV 5: the built-in functions' trees hold, places and slices, displays, tests -/
namespace EV
open PySem PySem.Spec L2
open PyProof.Rows hiding St
theorem ltCps_eq : ∀ a b : List Nat, ltCps a b = decide (a < b)
  | [], [] => rfl
  | [], _ :: _ => by simp [ltCps]
  | _ :: _, [] => by simp [ltCps]
  | a :: r, b :: t => by
    unfold ltCps
    rw [ltCps_eq r t]
    by_cases h : a < b
    · have : a :: r < b :: t := List.Lex.rel h
      simp [h, this]
    · by_cases e : a = b
      · subst e
        simp [List.cons_lt_cons_iff]
      · have : ¬ (a :: r < b :: t) := by
          rw [List.cons_lt_cons_iff]
          rintro (z | ⟨z, _⟩)
          · exact h z
          · exact e z
        simp [h, e, this]
theorem leS_iff {x y : Str} : leS x y = true ↔ ¬ y.cps.toList < x.cps.toList := by
  unfold leS
  simp
theorem leS_anti (a b : Str) (h1 : leS a b = true) (h2 : leS b a = true) : a = b := by
  rw [leS_iff] at h1 h2
  have e : a.cps.toList = b.cps.toList := List.le_antisymm (by simpa using h1) (by simpa using h2)
  cases a; cases b
  simp only [Str.mk.injEq] at e ⊢
  exact Array.toList_inj.mp e
theorem leS_total (a b : Str) : leS a b = true ∨ leS b a = true := by
  rw [leS_iff, leS_iff]
  by_cases h : b.cps.toList < a.cps.toList
  · exact .inr fun z => List.lt_irrefl _ (List.lt_trans h z)
  · exact .inl h
theorem leS_trans {a b c : Str} (h1 : leS a b = true) (h2 : leS b c = true) : leS a c = true := by
  rw [leS_iff] at h1 h2 ⊢
  exact fun z => by
    have p : a.cps.toList ≤ b.cps.toList := by simpa using h1
    have q : b.cps.toList ≤ c.cps.toList := by simpa using h2
    have := List.le_trans p q
    exact absurd z (by simpa using this)
theorem sortedS_pair : ∀ {l : List Str}, sortedS l = true → l.Pairwise (fun a b => leS a b = true)
  | [], _ => .nil
  | x :: xs, h => by
    have key : ∀ (p : Str) (l : List Str), risingS p l = true → (p :: l).Pairwise (fun a b => leS a b = true) := by
      intro p l
      induction l generalizing p with
      | nil => intro _; exact List.pairwise_cons.mpr ⟨fun _ z => (by cases z), .nil⟩
      | cons y ys ih =>
        intro h
        have h' : (!ltCps y.cps.toList p.cps.toList && risingS y ys) = true := h
        rw [Bool.and_eq_true] at h'
        have h1 := ih y h'.2
        have h2 : leS p y = true := by
          unfold leS
          rw [← ltCps_eq]
          exact h'.1
        refine List.pairwise_cons.mpr ⟨fun z hz => ?_, h1⟩
        rcases List.mem_cons.mp hz with rfl | hz
        · exact h2
        · exact leS_trans h2 ((List.pairwise_cons.mp h1).1 z hz)
    exact key x xs h
theorem insS_perm (x : Str) : ∀ l : List Str, (insS x l).Perm (x :: l)
  | [] => .refl _
  | y :: ys => by
    unfold insS
    split
    · exact .refl _
    · exact ((insS_perm x ys).cons y).trans (.swap x y ys)
theorem sortS_perm : ∀ l : List Str, (sortS l).Perm l
  | [] => .refl _
  | x :: xs => (insS_perm x _).trans ((sortS_perm xs).cons x)
theorem insS_rise (x : Str) : ∀ {l : List Str}, l.Pairwise (fun a b => leS a b = true) → (insS x l).Pairwise (fun a b => leS a b = true)
  | [], _ => by simp [insS]
  | y :: ys, h => by
    unfold insS
    rw [List.pairwise_cons] at h
    split
    · rename_i g
      refine List.pairwise_cons.mpr ⟨fun z hz => ?_, List.pairwise_cons.mpr h⟩
      rcases List.mem_cons.mp hz with rfl | hz
      · exact g
      · exact leS_trans g (h.1 z hz)
    · rename_i g
      refine List.pairwise_cons.mpr ⟨fun z hz => ?_, insS_rise x h.2⟩
      rcases List.mem_cons.mp ((insS_perm x ys).mem_iff.mp hz) with rfl | hz
      · rcases leS_total y z with k | k
        · exact k
        · exact absurd k g
      · exact h.1 z hz
theorem sortS_rise : ∀ l : List Str, (sortS l).Pairwise (fun a b => leS a b = true)
  | [] => .nil
  | x :: xs => insS_rise x (sortS_rise xs)
theorem sortS_uniq {l k : List Str} (p : l.Perm k) (h : sortedS l = true) : l = sortS k :=
  perm_rise leS_anti (p.trans (sortS_perm k).symm) (sortedS_pair h) (sortS_rise k)

section
variable {C : Cg}
theorem rbs1 {C : Cg} {W : Wd} {H : Hp} {x : D} {vs : List V} (h : Rbs C W H [x] vs) : ∃ v, vs = [v] ∧ Rb C W H x v := by
  cases h with
  | cons a t => cases t; exact ⟨_, rfl, a⟩
theorem rbs2 {C : Cg} {W : Wd} {H : Hp} {x y : D} {vs : List V} (h : Rbs C W H [x, y] vs) : ∃ v u, vs = [v, u] ∧ Rb C W H x v ∧ Rb C W H y u := by
  cases h with
  | cons a t =>
    obtain ⟨u, rfl, b⟩ := rbs1 t
    exact ⟨_, u, rfl, a, b⟩
theorem o_fl {α : Type} {o : Option α} {f : α → D} {e : D} {b : Bool} (h : (o.bind fun k => fl (f k)) = some (e, b)) : ∃ k, o = some k ∧ e = f k ∧ b = false := by
  cases o with
  | none => cases h
  | some k =>
    obtain ⟨h1, h2⟩ := some_fl h
    exact ⟨k, rfl, h1, h2⟩
def rLenA (K : PySem.W.Frag) : List V → Hp → VK → Prop := fun xs H Q => (∃ x n, xs = [x] ∧ LenV K x H n ∧ Q (.int n) H) ∨ ∃ a kvs, xs = [V.ref a] ∧ H a = some (.dK kvs) ∧ Q (.int kvs.length) H
theorem cr_lenA {X : Cx} : CallR X (.builtin "len") (rLenA X.K) := call_len.or call_lenD
theorem Rkv.length {W : Wd} : ∀ {xs : List (Key × D)} {vs : List (Key × V)}, Rkv C.G W xs vs → xs.length = vs.length
  | _, _, .nil => rfl
  | _, _, .cons _ t => congrArg (· + 1) (Rkv.length t)
theorem Rb.dct {W : Wd} {s : SL} {c : CL} {σ : St} {H : Hp} {v : V} (R : Rel C W s c σ H) {xs : List (Key × D)} (r : Rb C W H (.dct xs) v) : ∃ a vs, v = .ref a ∧ H a = some (.dK vs) ∧ Rkv C.G W xs vs := by
  rcases r with r | ⟨a, o, e1, e2, e⟩
  · cases r with
    | dct h q => exact ⟨_, _, rfl, R.sub _ _ h, q⟩
  · obtain ⟨vs, rfl, q⟩ := e
    exact ⟨_, _, e1, e2, q⟩
theorem cs_len : CallS C (rLenA C.G.K) dLen := by
  intro W s c σ H vs ds d b Q R r h k
  rcases ds with _ | ⟨x, _ | ⟨y, t⟩⟩
  · cases h
  · obtain ⟨v, rfl, a⟩ := rbs1 r
    cases x <;> first | (cases h; done) | skip
    · obtain ⟨h0, h⟩ := if_some h
      obtain ⟨rfl, rfl⟩ := some_fl h
      obtain rfl := a.str
      exact .inl ⟨_, _, rfl, ⟨h0, rfl⟩, k W _ H (.refl W) R (.fz (.int _))⟩
    · obtain ⟨rfl, rfl⟩ := some_fl h
      obtain ⟨p, us, rfl, h1, q1⟩ := a.rol R
      exact .inl ⟨_, us.length, rfl, .inl ⟨_, h1, rfl⟩, by rw [← q1.length]; exact k W _ H (.refl W) R (.fz (.int _))⟩
    · obtain ⟨rfl, rfl⟩ := some_fl h
      obtain ⟨p, us, rfl, h1, q1⟩ := a.lst R
      exact .inl ⟨_, us.length, rfl, .inl ⟨_, SqL.of h1, rfl⟩, by rw [← q1.length]; exact k W _ H (.refl W) R (.fz (.int _))⟩
    · obtain ⟨rfl, rfl⟩ := some_fl h
      obtain ⟨p, us, rfl, h1, q1⟩ := a.tup R
      exact .inl ⟨_, us.length, rfl, .inr ⟨_, h1, rfl⟩, by rw [← q1.length]; exact k W _ H (.refl W) R (.fz (.int _))⟩
    · obtain ⟨rfl, rfl⟩ := some_fl h
      obtain ⟨p, us, rfl, h1, q1⟩ := a.dct R
      exact .inr ⟨_, us, rfl, h1, by rw [← q1.length]; exact k W _ H (.refl W) R (.fz (.int _))⟩
  · cases x <;> cases h
theorem cs_abs : CallS C (fun xs H Q => ∃ i, xs = [.int i] ∧ Q (.int (if i < 0 then -i else i)) H) dAbs := by
  intro W s c σ H vs ds d b Q R r h k
  rcases ds with _ | ⟨x, _ | ⟨y, t⟩⟩
  · cases h
  · obtain ⟨v, rfl, a⟩ := rbs1 r
    cases x <;> first | (cases h; done) | skip
    obtain ⟨rfl, rfl⟩ := some_fl h
    obtain rfl := a.int
    exact ⟨_, rfl, k W _ H (.refl W) R (.fz (.int _))⟩
  · cases x <;> cases h
theorem cs_int : CallS C (fun xs H Q => (∃ i, xs = [.int i] ∧ Q (.int i) H) ∨ ∃ k, xs = [.bl k] ∧ Q (.int (if k then 1 else 0)) H) dInt := by
  intro W s c σ H vs ds d b Q R r h k
  rcases ds with _ | ⟨x, _ | ⟨y, t⟩⟩
  · cases h
  · obtain ⟨v, rfl, a⟩ := rbs1 r
    cases x <;> first | (cases h; done) | skip
    · obtain ⟨rfl, rfl⟩ := some_fl h
      obtain rfl := a.bool
      exact .inr ⟨_, rfl, k W _ H (.refl W) R (.fz (.int _))⟩
    · obtain ⟨rfl, rfl⟩ := some_fl h
      obtain rfl := a.int
      exact .inl ⟨_, rfl, k W _ H (.refl W) R (.fz (.int _))⟩
  · cases x <;> cases h
theorem cs_str : CallS C (fun xs H Q => ∃ i, xs = [.int i] ∧ i.natAbs.log2 < 1920 ∧ Q (.str (toString i)) H) dStr := by
  intro W s c σ H vs ds d b Q R r h k
  rcases ds with _ | ⟨x, _ | ⟨y, t⟩⟩
  · cases h
  · obtain ⟨v, rfl, a⟩ := rbs1 r
    cases x <;> first | (cases h; done) | skip
    obtain ⟨h0, h⟩ := if_some h
    obtain ⟨rfl, rfl⟩ := some_fl h
    obtain rfl := a.int
    exact ⟨_, rfl, h0, k W _ H (.refl W) R (.fz (.str _))⟩
  · cases x <;> cases h
theorem cs_max2 : CallS C (fun xs H Q => ∃ i j, xs = [.int i, .int j] ∧ Q (.int (if j > i then j else i)) H) dMax2 := by
  intro W s c σ H vs ds d b Q R r h k
  rcases ds with _ | ⟨x, _ | ⟨y, _ | ⟨z, t⟩⟩⟩
  · cases h
  · cases x <;> cases h
  · obtain ⟨v, u, rfl, a, e⟩ := rbs2 r
    cases x <;> first | (cases h; done) | skip
    cases y <;> first | (cases h; done) | skip
    obtain ⟨rfl, rfl⟩ := some_fl h
    obtain rfl := a.int
    obtain rfl := e.int
    exact ⟨_, _, rfl, k W _ H (.refl W) R (.fz (.int _))⟩
  · cases x <;> first | (cases h; done) | (cases y <;> cases h)
theorem cs_min2 : CallS C (fun xs H Q => ∃ i j, xs = [.int i, .int j] ∧ Q (.int (if j < i then j else i)) H) dMin2 := by
  intro W s c σ H vs ds d b Q R r h k
  rcases ds with _ | ⟨x, _ | ⟨y, _ | ⟨z, t⟩⟩⟩
  · cases h
  · cases x <;> cases h
  · obtain ⟨v, u, rfl, a, e⟩ := rbs2 r
    cases x <;> first | (cases h; done) | skip
    cases y <;> first | (cases h; done) | skip
    obtain ⟨rfl, rfl⟩ := some_fl h
    obtain rfl := a.int
    obtain rfl := e.int
    exact ⟨_, _, rfl, k W _ H (.refl W) R (.fz (.int _))⟩
  · cases x <;> first | (cases h; done) | (cases y <;> cases h)
theorem cs_divmod : CallS C (fun xs H Q => ∃ i j, xs = [.int i, .int j] ∧ CDiv i j ∧ ∀ p, H p = none → Q (.ref p) (upd H p (.tup [.int (i / j), .int (i % j)]))) dDivmod := by
  intro W s c σ H vs ds d b Q R r h k
  rcases ds with _ | ⟨x, _ | ⟨y, _ | ⟨z, t⟩⟩⟩
  · cases h
  · cases x <;> cases h
  · obtain ⟨v, u, rfl, a, e⟩ := rbs2 r
    cases x <;> first | (cases h; done) | skip
    cases y <;> first | (cases h; done) | skip
    obtain ⟨h0, h⟩ := if_some h
    obtain ⟨rfl, rfl⟩ := some_fl h
    obtain rfl := a.int
    obtain rfl := e.int
    refine ⟨_, _, rfl, h0, fun p hp => ?_⟩
    obtain ⟨le, R'⟩ := R.newF (o := .tup _) hp
    exact k _ _ _ le R' (.fz (.tup (.inl (.inl upd_same)) (.cons (.int _) (.cons (.int _) .nil))))
  · cases x <;> first | (cases h; done) | (cases y <;> cases h)
theorem cs_list : CallS C (fun xs H Q => ∃ p ys, xs = [.ref p] ∧ (SqL C.G.K H p ys ∨ SqT C.G.K H p ys) ∧ ∀ l, H l = none → Q (.ref l) (upd H l (.lst ys))) dList := by
  intro W s c σ H vs ds d b Q R r h k
  rcases ds with _ | ⟨x, _ | ⟨y, t⟩⟩
  · cases h
  · obtain ⟨v, rfl, a⟩ := rbs1 r
    have go : ∀ {p us xs}, (SqL C.G.K H p us ∨ SqT C.G.K H p us) → Rps C.G W xs us → some (D.lst xs, true) = some (d, b) → v = .ref p → ∃ p ys, [v] = [V.ref p] ∧ (SqL C.G.K H p ys ∨ SqT C.G.K H p ys) ∧ ∀ l, H l = none → Q (.ref l) (upd H l (.lst ys)) := fun {p us xs} hs q e ev => by
      cases e
      subst ev
      refine ⟨p, us, rfl, hs, fun l hl => ?_⟩
      obtain ⟨R', r'⟩ := R.new (d := .lst xs) hl (show Obo C.G W (.lst _) (.lst us) from ⟨_, rfl, q⟩)
      exact k W _ _ (.refl W) R' r'
    cases x <;> first | (cases h; done) | skip
    · obtain ⟨p, us, e, h1, q1⟩ := a.rol R
      exact go (.inl h1) q1 h e
    · obtain ⟨p, us, e, h1, q1⟩ := a.lst R
      exact go (.inl (SqL.of h1)) q1 h e
    · obtain ⟨p, us, e, h1, q1⟩ := a.tup R
      exact go (.inr h1) q1 h e
  · cases x <;> cases h
theorem cs_tuple : CallS C (fun xs H Q => ∃ p ys, xs = [.ref p] ∧ ((SqL C.G.K H p ys ∧ ∀ l, H l = none → Q (.ref l) (upd H l (.tup ys))) ∨ (SqT C.G.K H p ys ∧ Q (.ref p) H))) dTuple := by
  intro W s c σ H vs ds d b Q R r h k
  rcases ds with _ | ⟨x, _ | ⟨y, t⟩⟩
  · cases h
  · obtain ⟨v, rfl, a⟩ := rbs1 r
    have go : ∀ {p us xs}, SqL C.G.K H p us → Rps C.G W xs us → fl (D.tup xs) = some (d, b) → ∀ l, H l = none → Q (.ref l) (upd H l (.tup us)) := fun {p us xs} hs q e l hl => by
      obtain ⟨rfl, rfl⟩ := some_fl e
      obtain ⟨le, R'⟩ := R.newF (o := .tup us) hl
      exact k _ _ _ le R' (.fz (.tup (.inl (.inl upd_same)) (q.mono le)))
    cases x <;> first | (cases h; done) | skip
    · obtain ⟨p, us, rfl, h1, q1⟩ := a.rol R
      exact ⟨p, us, rfl, .inl ⟨h1, go h1 q1 h⟩⟩
    · obtain ⟨p, us, rfl, h1, q1⟩ := a.lst R
      exact ⟨p, us, rfl, .inl ⟨SqL.of h1, go (SqL.of h1) q1 h⟩⟩
    · obtain ⟨rfl, rfl⟩ := some_fl h
      obtain ⟨p, us, rfl, h1, q1⟩ := a.tup R
      refine ⟨p, us, rfl, .inr ⟨h1, k W _ H (.refl W) R (.fz ?_)⟩⟩
      rcases a with a | ⟨_, _, _, _, e⟩
      · exact a
      · exact e.elim
  · cases x <;> cases h
theorem cs_all : CallS C (rAll C.G.K) dAll := by
  intro W s c σ H vs ds d b Q R r h k
  rcases ds with _ | ⟨x, _ | ⟨y, t⟩⟩
  · cases h
  · obtain ⟨v, rfl, a⟩ := rbs1 r
    cases x <;> first | (cases h; done) | skip
    obtain ⟨bs, h1, rfl, rfl⟩ := o_fl h
    obtain ⟨p, us, rfl, h2, q⟩ := a.lst R
    refine ⟨p, bs, rfl, ?_, k W _ H (.refl W) R (.fz (.bool _))⟩
    rw [← q.bools h1]
    exact SqL.of h2
  · cases x <;> cases h
theorem cs_any : CallS C (rAny C.G.K) dAny := by
  intro W s c σ H vs ds d b Q R r h k
  rcases ds with _ | ⟨x, _ | ⟨y, t⟩⟩
  · cases h
  · obtain ⟨v, rfl, a⟩ := rbs1 r
    cases x <;> first | (cases h; done) | skip
    obtain ⟨bs, h1, rfl, rfl⟩ := o_fl h
    obtain ⟨p, us, rfl, h2, q⟩ := a.lst R
    refine ⟨p, bs, rfl, ?_, k W _ H (.refl W) R (.fz (.bool _))⟩
    rw [← q.bools h1]
    exact SqL.of h2
  · cases x <;> cases h
theorem cs_sum : CallS C (rSum C.G.K) dSum := by
  intro W s c σ H vs ds d b Q R r h k
  rcases ds with _ | ⟨x, _ | ⟨y, t⟩⟩
  · cases h
  · obtain ⟨v, rfl, a⟩ := rbs1 r
    cases x <;> first | (cases h; done) | skip
    obtain ⟨bs, h1, rfl, rfl⟩ := o_fl h
    obtain ⟨p, us, rfl, h2, q⟩ := a.lst R
    refine ⟨p, bs, rfl, ?_, k W _ H (.refl W) R (.fz (.int _))⟩
    rw [← q.ints h1]
    exact SqL.of h2
  · cases x <;> cases h
theorem cs_max1 : CallS C (rMax C.G.K) dMax1 := by
  intro W s c σ H vs ds d b Q R r h k
  rcases ds with _ | ⟨x, _ | ⟨y, t⟩⟩
  · cases h
  · obtain ⟨v, rfl, a⟩ := rbs1 r
    cases x <;> first | (cases h; done) | skip
    have h' : ((dInts _).bind fun ns => (maxI ns).bind fun m => fl (.int m)) = some (d, b) := h
    rename_i xs
    cases h1 : dInts xs with
    | none => rw [h1] at h'; cases h'
    | some ns =>
      rw [h1] at h'
      obtain ⟨m, h3, rfl, rfl⟩ := o_fl (show ((maxI ns).bind fun m => fl (.int m)) = some (d, b) from h')
      obtain ⟨p, us, rfl, h2, q⟩ := a.lst R
      refine ⟨p, ns, rfl, ?_, ?_, fun z hz hm => ?_⟩
      · rw [← q.ints h1]
        exact SqL.of h2
      · cases ns with
        | nil => cases h3
        | cons _ _ => exact Nat.succ_pos _
      · rw [maxI_ok h3 hz hm]
        exact k W _ H (.refl W) R (.fz (.int _))
  · cases x <;> cases h
theorem cs_min1 : CallS C (rMin C.G.K) dMin1 := by
  intro W s c σ H vs ds d b Q R r h k
  rcases ds with _ | ⟨x, _ | ⟨y, t⟩⟩
  · cases h
  · obtain ⟨v, rfl, a⟩ := rbs1 r
    cases x <;> first | (cases h; done) | skip
    have h' : ((dInts _).bind fun ns => (minI ns).bind fun m => fl (.int m)) = some (d, b) := h
    rename_i xs
    cases h1 : dInts xs with
    | none => rw [h1] at h'; cases h'
    | some ns =>
      rw [h1] at h'
      obtain ⟨m, h3, rfl, rfl⟩ := o_fl (show ((minI ns).bind fun m => fl (.int m)) = some (d, b) from h')
      obtain ⟨p, us, rfl, h2, q⟩ := a.lst R
      refine ⟨p, ns, rfl, ?_, ?_, fun z hz hm => ?_⟩
      · rw [← q.ints h1]
        exact SqL.of h2
      · cases ns with
        | nil => cases h3
        | cons _ _ => exact Nat.succ_pos _
      · rw [minI_ok h3 hz hm]
        exact k W _ H (.refl W) R (.fz (.int _))
  · cases x <;> cases h
def rSortedA (K : PySem.W.Frag) : List V → Hp → VK → Prop := fun xs H Q => rSortedI K xs H Q ∨ rSortedS K xs H Q
theorem cr_sortedA {X : Cx} : CallR X (.builtin "sorted") (rSortedA X.K) := cr_sortedI.or cr_sortedS
theorem cs_sorted : CallS C (rSortedA C.G.K) dSorted := by
  intro W s c σ H vs ds d b Q R r h k
  rcases ds with _ | ⟨x, _ | ⟨y, t⟩⟩
  · cases h
  · obtain ⟨v, rfl, a⟩ := rbs1 r
    cases x <;> first | (cases h; done) | skip
    rename_i xs
    obtain ⟨p, us, rfl, h2, q⟩ := a.lst R
    cases h1 : dInts xs with
    | some ns =>
      simp only [dSorted, h1] at h
      cases h
      refine .inl ⟨p, ns, rfl, by rw [← q.ints h1]; exact SqL.of h2, fun ns' l pm ri hl => ?_⟩
      rw [sortI_uniq pm ri]
      obtain ⟨R', r'⟩ := R.new (d := .lst ((sortI ns).map .int)) hl (show Obo C.G W (.lst _) (.lst ((sortI ns).map V.int)) from ⟨_, rfl, Rps.ofInts _⟩)
      exact k W _ _ (.refl W) R' r'
    | none =>
      cases h3 : dStrs xs with
      | none => simp [dSorted, h1, h3] at h
      | some zs =>
        simp only [dSorted, h1, h3] at h
        obtain ⟨h0, h⟩ := if_some h
        cases h
        refine .inr ⟨p, zs, rfl, by rw [← q.strs h3]; exact SqL.of h2, h0, fun ns' l pm ri hl => ?_⟩
        rw [sortS_uniq pm ri]
        obtain ⟨R', r'⟩ := R.new (d := .lst ((sortS zs).map .str)) hl (show Obo C.G W (.lst _) (.lst ((sortS zs).map V.str)) from ⟨_, rfl, Rps.ofStrs _⟩)
        exact k W _ _ (.refl W) R' r'
  · cases x <;> cases h
end

/-! ### places -/
def dIx : D → D → DB
  | .lst xs, .int i => (atI xs i).bind fun d => fl d
  | .rol xs, .int i => (atI xs i).bind fun d => fl d
  | .tup xs, .int i => (atI xs i).bind fun d => fl d
  | .str z, .int i => if z.length ≤ sizeLine then (atI z.cps.toList i).bind fun c => fl (.str ⟨#[c]⟩) else none
  | _, _ => none
theorem Rps.at {C : Cg} {W : Wd} {xs : List D} {vs : List V} {i : Int} {d : D} (r : Rps C.G W xs vs) (h : atI xs i = some d) : ∃ v, atI vs i = some v ∧ Rp C.G W d v := by
  unfold atI at h ⊢
  rw [← r.length]
  cases e : ixN xs.length i with
  | none => rw [e] at h; cases h
  | some j =>
    rw [e] at h
    exact r.get h
section
variable {C : Cg}
theorem ops_ix : OpS C (rIx C.G.K) dIx := by
  intro W s c σ H x y v u d b Q R a e h k
  cases x <;> first | (cases h; done) | skip
  all_goals (cases y <;> first | (cases h; done) | skip)
  all_goals obtain rfl := e.int
  · obtain ⟨h0, h⟩ := if_some h
    obtain ⟨z, h1, rfl, rfl⟩ := o_fl h
    obtain rfl := a.str
    exact .inr (.inr ⟨_, _, _, rfl, rfl, h0, h1, k W _ H (.refl W) R (.fz (.str _))⟩)
  · obtain ⟨z, h1, rfl, rfl⟩ := o_fl h
    obtain ⟨p, vs, rfl, h2, q⟩ := a.rol R
    obtain ⟨v', h3, q3⟩ := q.at h1
    exact .inl ⟨_, _, _, _, rfl, rfl, h2, h3, k W _ H (.refl W) R (.fz q3)⟩
  · obtain ⟨z, h1, rfl, rfl⟩ := o_fl h
    obtain ⟨p, vs, rfl, h2, q⟩ := a.lst R
    obtain ⟨v', h3, q3⟩ := q.at h1
    exact .inl ⟨_, _, _, _, rfl, rfl, SqL.of h2, h3, k W _ H (.refl W) R (.fz q3)⟩
  · obtain ⟨z, h1, rfl, rfl⟩ := o_fl h
    obtain ⟨p, vs, rfl, h2, q⟩ := a.tup R
    obtain ⟨v', h3, q3⟩ := q.at h1
    exact .inr (.inl ⟨_, _, _, _, rfl, rfl, h2, h3, k W _ H (.refl W) R (.fz q3)⟩)
end
def noSlice : Expr → Bool
  | .Slice _ _ _ _ => false
  | _ => true
theorem plain_ix {b : Expr} (h : noSlice b = true) : PlainIx b := by
  intro o i
  cases b <;> first | rfl | cases h
section
variable {X : Cx} {C : Cg} {a b : Expr} {pos : Pos} {ma mb : MO}
theorem ve_ix (hK : X.K = C.G.K) (hs : noSlice b = true) (ha : PE X a (TOv C ma)) (hb : PE X b (TOv C mb)) : PE X (.Subscript a b pos) (TEv C (m2 dIx ma mb)) :=
  PEimp (pe_ix (r := rIx C.G.K) (hK ▸ ix_seq) ha hb (plain_ix hs)) fun _ _ _ q => t2_of ops_ix q
end
end EV

set_option Elab.async false
set_option linter.all false
set_option maxRecDepth 100000
/-! EV 6: slices, displays, and or not, chains, what changes a list, texts' methods, isinstance, f-strings -/
namespace EV
open PySem PySem.Spec L2
open PyProof.Rows hiding St

/-! ### slices -/
abbrev MP := SL → CL → Ot (Option Int)
def KontP (C : Cg) (σ : St) (W : Wd) (o : Ot (Option Int)) (Q : Option Int → Hp → Prop) : Prop := match o with
  | .ok a s' c' => ∀ W' H', W.le W' → Rel C W' s' c' σ H' → Q a H'
  | .ex x s' c' => ∀ W' H', W.le W' → Rel C W' s' c' σ H' → C.KX x W' s' c' H'
  | .bad => False
def TPv (C : Cg) (m : MP) : L2.TO := fun σ H Q => ∃ W s c, Rel C W s c σ H ∧ KontP C σ W (m s c) Q
def pNone : MP := fun s c => .ok none s c
def kInt (d : D) (s : SL) (c : CL) : Ot (Option Int) := match d with
  | .int i => .ok (some i) s c
  | _ => .bad
def pSome (m : ME) : MP := fun s c => (m s c).bind fun r s c => kInt r.1 s c
section
variable {C : Cg} {W W' : Wd} {s : SL} {c : CL} {σ : St} {H : Hp}
theorem KontP.up {o : Ot (Option Int)} {Q : Option Int → Hp → Prop} (h : W.le W') (k : KontP C σ W o Q) : KontP C σ W' o Q := by
  cases o with
  | ok a s' c' => exact fun W2 H' l => k W2 H' (h.trans l)
  | ex x s' c' => exact fun W2 H' l => k W2 H' (h.trans l)
  | bad => exact k
theorem KontP.thn {o : Ot (Option Int)} {Q Q' : Option Int → Hp → Prop} (h : KontP C σ W o Q) (i : ∀ v H, Q v H → Q' v H) : KontP C σ W o Q' := by
  cases o with
  | ok a s' c' => exact fun W1 H1 l r => i _ _ (h W1 H1 l r)
  | ex x s' c' => exact h
  | bad => exact h
theorem Kont.bindP {o : Ot (D × Bool)} {k : D × Bool → SL → CL → Ot (Option Int)} {Q : Option Int → Hp → Prop} (h : KontP C σ W (o.bind k) Q) :
    Kont C σ W o fun v H1 => ∃ W1 s1 c1 d b, W.le W1 ∧ Rel C W1 s1 c1 σ H1 ∧ Rr C W1 s1 σ H1 d b v ∧ KontP C σ W1 (k (d, b) s1 c1) Q := by
  cases o with
  | ok a s' c' =>
    obtain ⟨d, b⟩ := a
    exact fun W1 v H1 l r q => ⟨W1, s', c', d, b, l, r, q, KontP.up l h⟩
  | ex x s' c' => exact h
  | bad => exact h
theorem KontP.bind {o : Ot (Option Int)} {k : Option Int → SL → CL → Ot (D × Bool)} {Q : VK} (h : Kont C σ W (o.bind k) Q) :
    KontP C σ W o fun v H1 => ∃ W1 s1 c1, W.le W1 ∧ Rel C W1 s1 c1 σ H1 ∧ Kont C σ W1 (k v s1 c1) Q := by
  cases o with
  | ok a s' c' => exact fun W1 H1 l r => ⟨W1, s', c', l, r, Kont.up l h⟩
  | ex x s' c' => exact h
  | bad => exact h
end
section
variable {X : Cx} {C : Cg} {e : Expr} {m : ME}
theorem POimp {e : Option Expr} {t t' : L2.TO} (h : PO X e t) (i : ∀ σ H Q, t' σ H Q → t σ H Q) : PO X e t' := ⟨fun pins s σ H Q I q => h.run pins s σ H Q I (i σ H Q q)⟩
theorem vp_none : PO X none (TPv C pNone) := POimp po_none fun σ H Q ⟨W, s, c, R, k⟩ => k W H (.refl W) R
theorem vp_some (he : PE X e (TEv C m)) : PO X (some e) (TPv C (pSome m)) := POimp (po_some he) fun σ H Q ⟨W, s, c, R, k⟩ =>
  ⟨W, s, c, R, (Kont.bindP k).thn fun v H1 ⟨W1, s1, c1, d, b, l1, R1, q1, k1⟩ => by
    have k1' : KontP C σ W1 (kInt d s1 c1) Q := k1
    cases d <;> first | exact k1'.elim | skip
    obtain ⟨W2, l2, R2, p2⟩ := R1.freezeR q1
    cases p2
    exact ⟨_, rfl, k1' W2 H1 l2 R2⟩⟩
end
def cutD {α : Type} (xs : List α) (lo hi : Option Int) : List α := (xs.drop (HT.sIx xs.length 0 lo)).take (HT.sIx xs.length xs.length hi - HT.sIx xs.length 0 lo)
def dCut : D → Option Int → Option Int → DB
  | .lst xs, lo, hi => some (.lst (cutD xs lo hi), true)
  | .rol xs, lo, hi => some (.lst (cutD xs lo hi), true)
  | .tup xs, lo, hi => fl (.tup (cutD xs lo hi))
  | .str z, lo, hi => if z.length ≤ sizeLine then fl (.str (cutS z lo hi)) else none
  | _, _, _ => none
def mCut (ma : MO) (ml mh : MP) : ME := fun s c => (ma s c).bind fun od s c => (ml s c).bind fun lo s c => (mh s c).bind fun hi s c => kDB ((od.get s c).bind fun d => dCut d lo hi) s c
def rSlAll (K : PySem.W.Frag) : V → Option Int → Option Int → Hp → VK → Prop := fun x lo hi H Q => rSlL K x lo hi H Q ∨ (fun x lo hi H Q => rSlS x lo hi H Q ∨ rSlA K x lo hi H Q) x lo hi H Q
theorem sl_all {X : Cx} : SlR X (rSlAll X.K) := sl_list.or (sl_str.or sl_tupA)
theorem Rps.cut {C : Cg} {W : Wd} {xs : List D} {vs : List V} (r : Rps C.G W xs vs) (lo hi : Option Int) : Rps C.G W (cutD xs lo hi) (cutV vs lo hi) := by
  unfold cutD cutV
  rw [r.length]
  exact (r.drop _).take _
theorem cut_all {α : Type} {xs : List α} {lo hi : Option Int} (h : HT.sIx xs.length 0 lo = 0 ∧ HT.sIx xs.length xs.length hi = xs.length) : cutD xs lo hi = xs := by
  unfold cutD
  rw [h.1, h.2]
  simp
theorem sl_of {C : Cg} {W : Wd} {s : SL} {c : CL} {σ : St} {H : Hp} {x : D} {v : V} {lo hi : Option Int} {d : D} {b : Bool} {Q : VK} (R : Rel C W s c σ H) (a : Rb C W H x v) (h : dCut x lo hi = some (d, b))
    (k : ∀ W' v' H', W.le W' → Rel C W' s c σ H' → Rr C W' s σ H' d b v' → Q v' H') : rSlAll C.G.K v lo hi H Q := by
  have go : ∀ {p us xs}, SqL C.G.K H p us → Rps C.G W xs us → some (D.lst (cutD xs lo hi), true) = some (d, b) → rSlAll C.G.K (.ref p) lo hi H Q := fun {p us xs} hs q e => by
    cases e
    refine .inl ⟨p, us, rfl, hs, fun l hl => ?_⟩
    obtain ⟨R', r'⟩ := R.new (d := .lst (cutD xs lo hi)) hl (show Obo C.G W (.lst _) (.lst _) from ⟨_, rfl, q.cut lo hi⟩)
    exact k W _ _ (.refl W) R' r'
  cases x <;> first | (cases h; done) | skip
  · obtain ⟨h0, h⟩ := if_some h
    obtain ⟨rfl, rfl⟩ := some_fl h
    obtain rfl := a.str
    exact .inr (.inl ⟨_, rfl, h0, k W _ H (.refl W) R (.fz (.str _))⟩)
  · obtain ⟨p, us, rfl, h1, q1⟩ := a.rol R
    exact go h1 q1 h
  · obtain ⟨p, us, rfl, h1, q1⟩ := a.lst R
    exact go (SqL.of h1) q1 h
  · rename_i xs
    obtain ⟨rfl, rfl⟩ := some_fl h
    obtain ⟨p, us, rfl, h1, q1⟩ := a.tup R
    refine .inr (.inr ⟨p, us, rfl, h1, fun z => ?_, fun z l hl => ?_⟩)
    · rw [← q1.length] at z
      rw [cut_all z] at k
      rcases a with a | ⟨_, _, _, _, e⟩
      · exact k W _ H (.refl W) R (.fz a)
      · exact e.elim
    · obtain ⟨le, R'⟩ := R.newF (o := .tup (cutV us lo hi)) hl
      exact k _ _ _ le R' (.fz (.tup (.inl (.inl upd_same)) ((q1.cut lo hi).mono le)))
theorem ve_cut {X : Cx} {C : Cg} {a : Expr} {lo hi : Option Expr} {p2 pos : Pos} {ma : MO} {ml mh : MP} (hK : X.K = C.G.K) (ha : PE X a (TOv C ma)) (hl : PO X lo (TPv C ml)) (hh : PO X hi (TPv C mh)) :
    PE X (.Subscript a (.Slice lo hi none p2) pos) (TEv C (mCut ma ml mh)) :=
  PEimp (pe_slice (r := rSlAll C.G.K) (hK ▸ sl_all) ha hl hh) fun σ H Q ⟨W, s, c, R, k⟩ =>
    ⟨W, s, c, R, (KontO.bind k).thn fun v H1 ⟨W1, s1, c1, od, l1, R1, q1, k1⟩ =>
      ⟨W1, s1, c1, R1, (KontP.bind k1).thn fun lo H2 ⟨W2, s2, c2, l2, R2, k2⟩ =>
        ⟨W2, s2, c2, R2, (KontP.bind k2).thn fun hi H3 ⟨W3, s3, c3, l3, R3, k3⟩ => by
          have k3' : Kont C σ W3 (kDB ((od.get s3 c3).bind fun d => dCut d lo hi) s3 c3) Q := k3
          cases e : od.get s3 c3 with
          | none => rw [e] at k3'; exact k3'.elim
          | some x =>
            rw [e] at k3'
            have k4 : Kont C σ W3 (kDB (dCut x lo hi) s3 c3) Q := k3'
            cases e2 : dCut x lo hi with
            | none => rw [e2] at k4; exact k4.elim
            | some r =>
              rw [e2] at k4
              obtain ⟨d, b⟩ := r
              exact sl_of R3 ((q1.mono (l2.trans l3)).read R3 e) e2 k4⟩⟩⟩

/-! ### displays -/
/-- the operands are values -/
def valsOf : List Od → Option (List D)
  | [] => some []
  | .dv d :: os => (valsOf os).map (d :: ·)
  | .bw _ :: _ => none
theorem OdRs.vals {C : Cg} {W : Wd} {σ : St} : ∀ {os : List Od} {vs : List V} {ds : List D}, OdRs C W σ os vs → valsOf os = some ds → Rps C.G W ds vs
  | _, _, _, .nil, e => by
    cases e
    exact .nil
  | .dv d :: os, _, ds, .cons a t, e => by
    have e' : (valsOf os).map (d :: ·) = some ds := e
    cases z : valsOf os with
    | none => rw [z] at e'; cases e'
    | some es =>
      rw [z] at e'
      cases e'
      exact .cons a (OdRs.vals t z)
  | .bw _ :: _, _, _, .cons _ _, e => by cases e
def dDispL (ds : List D) : DB := if ds.length ≤ sizeLine then some (.lst ds, true) else none
def dDispT (ds : List D) : DB := if ds.length ≤ sizeLine then fl (.tup ds) else none
def mVals (f : List D → DB) (m : MA) : ME := fun s c => (m s c).bind fun ods s c => kDB ((valsOf ods).bind f) s c
section
variable {X : Cx} {C : Cg} {es : List Expr} {pos : Pos} {m : MA}
theorem ve_lst (ha : PA X es (TAv C m)) : PE X (.List es pos) (TEv C (mVals dDispL m)) := PEimp (pe_lst ha) fun σ H Q ⟨W, s, c, R, k⟩ =>
  ⟨W, s, c, R, (KontA.bind k).thn fun vs H1 ⟨W1, s1, c1, ods, l1, R1, q1, k1⟩ => by
    cases e : valsOf ods with
    | none => rw [e] at k1; exact k1.elim
    | some ds =>
      rw [e] at k1
      have k2 : Kont C σ W1 (kDB (dDispL ds) s1 c1) Q := k1
      unfold dDispL at k2
      have q := q1.vals e
      by_cases h : ds.length ≤ sizeLine
      · rw [if_pos h] at k2
        refine ⟨by rw [← q.length]; exact h, fun p hp => ?_⟩
        obtain ⟨R', r'⟩ := R1.new (d := .lst ds) hp (show Obo C.G W1 (.lst _) (.lst vs) from ⟨_, rfl, q⟩)
        exact k2 W1 _ _ (.refl W1) R' r'
      · rw [if_neg h] at k2
        exact k2.elim⟩
theorem ve_tup {x1} (ha : PA X es (TAv C m)) : PE X (.Tuple es x1 pos) (TEv C (mVals dDispT m)) := PEimp (pe_tup ha) fun σ H Q ⟨W, s, c, R, k⟩ =>
  ⟨W, s, c, R, (KontA.bind k).thn fun vs H1 ⟨W1, s1, c1, ods, l1, R1, q1, k1⟩ => by
    cases e : valsOf ods with
    | none => rw [e] at k1; exact k1.elim
    | some ds =>
      rw [e] at k1
      have k2 : Kont C σ W1 (kDB (dDispT ds) s1 c1) Q := k1
      unfold dDispT at k2
      have q := q1.vals e
      by_cases h : ds.length ≤ sizeLine
      · rw [if_pos h] at k2
        refine ⟨by rw [← q.length]; exact h, fun p hp => ?_⟩
        obtain ⟨le, R'⟩ := R1.newF (o := .tup vs) hp
        exact k2 _ _ _ le R' (.fz (.tup (.inl (.inl upd_same)) (q.mono le)))
      · rw [if_neg h] at k2
        exact k2.elim⟩
end

/-! ### tests -/
def mTt (m : MT) : ME := fun s c => (m s c).bind fun b s c => .ok (.bool b, false) s c
def tAndM (a b : MT) : MT := fun s c => (a s c).bind fun k s c => if k = true then b s c else .ok false s c
def tOrM (a b : MT) : MT := fun s c => (a s c).bind fun k s c => if k = true then .ok true s c else b s c
def tNotM (a : MT) : MT := fun s c => (a s c).bind fun k s c => .ok (!k) s c
def mIf (t : MT) (a b : ME) : ME := fun s c => (t s c).bind fun k s c => if k = true then a s c else b s c
/-- and, or as values: all but the last True or False -/
def kB (d : D) (f : Bool → Ot (D × Bool)) : Ot (D × Bool) := match d with
  | .bool b => f b
  | _ => .bad
def mAnd (a b : ME) : ME := fun s c => (a s c).bind fun r s c => kB r.1 fun k => if k = true then b s c else .ok (.bool false, false) s c
def mOr (a b : ME) : ME := fun s c => (a s c).bind fun r s c => kB r.1 fun k => if k = true then .ok (.bool true, false) s c else b s c
def mNot (a : ME) : ME := fun s c => (a s c).bind fun r s c => kB r.1 fun k => .ok (.bool (!k), false) s c
/-- truth of a value -/
def dTru : D → Option Bool
  | .non => some false
  | .bool b => some b
  | .int i => some (i != 0)
  | .str z => if z.length ≤ sizeLine then some ((z.length : Int) != 0) else none
  | .lst xs => some (!xs.isEmpty)
  | .rol xs => some (!xs.isEmpty)
  | .tup xs => some (!xs.isEmpty)
  | .dct xs => some (!xs.isEmpty)
  | _ => none
def kO {α : Type} (o : Option α) (s : SL) (c : CL) : Ot α := match o with
  | some b => .ok b s c
  | none => .bad
def mTru (m : MO) : MT := fun s c => (m s c).bind fun od s c => kO ((od.get s c).bind dTru) s c
/-- a test whose truth is asked plainly -/
def plainT : Expr → Bool
  | .UnaryOp .Not _ _ => false
  | .BoolOp _ _ _ => false
  | .IfExp _ _ _ _ => false
  | .Compare _ _ _ _ => false
  | _ => true
theorem plain_true {e : Expr} {env : Env} (h : plainT e = true) (whole : Sem Value) : isTrue e env whole = (do let v ← whole; standAt e.pos; holding [v] (truthy v)) := by
  cases e <;> first | rfl | (cases h; done) | skip
  rename_i op x pos
  cases op <;> first | rfl | cases h
theorem Rps.isEmpty {C : Cg} {W : Wd} {xs : List D} {vs : List V} (r : Rps C.G W xs vs) : xs.isEmpty = vs.isEmpty := by cases r <;> rfl
theorem Rkv.isEmpty {C : Cg} {W : Wd} {xs : List (Key × D)} {vs : List (Key × V)} (r : Rkv C.G W xs vs) : xs.isEmpty = vs.isEmpty := by cases r <;> rfl
theorem Rb.tru {C : Cg} {W : Wd} {s : SL} {c : CL} {σ : St} {H : Hp} {d : D} {v : V} {k : Bool} (R : Rel C W s c σ H) (r : Rb C W H d v) (h : dTru d = some k) : TruV C.G.K v H k := by
  cases d <;> first | (cases h; done) | skip
  · obtain rfl := r.non
    cases h
    rfl
  · obtain rfl := r.bool
    cases h
    rfl
  · obtain rfl := r.int
    cases h
    rfl
  · obtain rfl := r.str
    rename_i z
    have h' : (if z.length ≤ sizeLine then some ((z.length : Int) != 0) else none) = some k := h
    by_cases g : z.length ≤ sizeLine
    · rw [if_pos g] at h'
      cases h'
      exact ⟨g, rfl⟩
    · rw [if_neg g] at h'
      cases h'
  · obtain ⟨p, us, rfl, h1, q1⟩ := r.rol R
    cases h
    exact .inl ⟨us, h1, by rw [q1.isEmpty]⟩
  · obtain ⟨p, us, rfl, h1, q1⟩ := r.lst R
    cases h
    exact .inl ⟨us, SqL.of h1, by rw [q1.isEmpty]⟩
  · obtain ⟨p, us, rfl, h1, q1⟩ := r.tup R
    cases h
    exact .inr (.inl ⟨us, h1, by rw [q1.isEmpty]⟩)
  · obtain ⟨p, us, rfl, h1, q1⟩ := r.dct R
    cases h
    exact .inr (.inr ⟨us, h1, by rw [q1.isEmpty]⟩)
section
variable {X : Cx} {C : Cg} {a b e : Expr} {rest : List Expr} {pos : Pos} {ma mb : ME} {ta tb : MT} {mo : MO}
theorem vt_tru (hK : X.K = C.G.K) (hp : plainT e = true) (he : PE X e (TOv C mo)) : PT X e (TTv C (mTru mo)) := PTimp (pt_truth he (plain_true hp)) fun σ H Q ⟨W, s, c, R, k⟩ =>
  ⟨W, s, c, R, (KontO.bindT k).thn fun v H1 ⟨W1, s1, c1, od, l1, R1, q1, k1⟩ => by
    have k1' : KontT C σ W1 (kO ((od.get s1 c1).bind dTru) s1 c1) Q := k1
    cases e1 : od.get s1 c1 with
    | none => rw [e1] at k1'; exact k1'.elim
    | some d =>
      rw [e1] at k1'
      have k2 : KontT C σ W1 (kO (dTru d) s1 c1) Q := k1'
      cases e2 : dTru d with
      | none => rw [e2] at k2; exact k2.elim
      | some z =>
        rw [e2] at k2
        exact ⟨z, hK ▸ (q1.read R1 e1).tru R1 e2, k2 W1 H1 (.refl W1) R1⟩⟩
theorem vt_not (ha : PT X a (TTv C ta)) : PT X (.UnaryOp .Not a pos) (TTv C (tNotM ta)) := PTimp (pt_not ha) fun σ H Q ⟨W, s, c, R, k⟩ =>
  ⟨W, s, c, R, (KontT.bindT k).thn fun v H1 ⟨W1, s1, c1, l1, R1, k1⟩ => k1 W1 H1 (.refl W1) R1⟩
theorem vw_and1 (ha : PT X a (TTv C ta)) : PW X (.BoolOp .And [a] pos) (TTv C ta) := pw_and1 ha
theorem vw_or1 (ha : PT X a (TTv C ta)) : PW X (.BoolOp .Or [a] pos) (TTv C ta) := pw_or1 ha
theorem vw_and (ha : PT X a (TTv C ta)) (hb : PW X (.BoolOp .And (b :: rest) pos) (TTv C tb)) : PW X (.BoolOp .And (a :: b :: rest) pos) (TTv C (tAndM ta tb)) := PWimp (pw_and ha hb) fun σ H Q ⟨W, s, c, R, k⟩ =>
  ⟨W, s, c, R, (KontT.bindT k).thn fun v H1 ⟨W1, s1, c1, l1, R1, k1⟩ => by
    cases v with
    | true => exact (by rw [if_pos rfl] at k1 ⊢; exact ⟨W1, s1, c1, R1, k1⟩)
    | false => exact (by rw [if_neg Bool.false_ne_true] at k1 ⊢; exact k1 W1 H1 (.refl W1) R1)⟩
theorem vw_or (ha : PT X a (TTv C ta)) (hb : PW X (.BoolOp .Or (b :: rest) pos) (TTv C tb)) : PW X (.BoolOp .Or (a :: b :: rest) pos) (TTv C (tOrM ta tb)) := PWimp (pw_or ha hb) fun σ H Q ⟨W, s, c, R, k⟩ =>
  ⟨W, s, c, R, (KontT.bindT k).thn fun v H1 ⟨W1, s1, c1, l1, R1, k1⟩ => by
    cases v with
    | true => exact (by rw [if_pos rfl] at k1 ⊢; exact k1 W1 H1 (.refl W1) R1)
    | false => exact (by rw [if_neg Bool.false_ne_true] at k1 ⊢; exact ⟨W1, s1, c1, R1, k1⟩)⟩
theorem ve_if (ht : PT X e (TTv C ta)) (ha : PE X a (TEv C ma)) (hb : PE X b (TEv C mb)) : PE X (.IfExp e a b pos) (TEv C (mIf ta ma mb)) := PEimp (pe_ifExp ht ha hb) fun σ H Q ⟨W, s, c, R, k⟩ =>
  ⟨W, s, c, R, (Kont.bindT k).thn fun v H1 ⟨W1, s1, c1, l1, R1, k1⟩ => by
    cases v with
    | true => exact (by rw [if_pos rfl] at k1 ⊢; exact ⟨W1, s1, c1, R1, k1⟩)
    | false => exact (by rw [if_neg Bool.false_ne_true] at k1 ⊢; exact ⟨W1, s1, c1, R1, k1⟩)⟩
theorem kB_of {W : Wd} {s : SL} {c : CL} {σ : St} {H : Hp} {d : D} {b : Bool} {v : V} {f : Bool → Ot (D × Bool)} {Q : VK} (R : Rel C W s c σ H) (q : Rr C W s σ H d b v) (k : Kont C σ W (kB d f) Q) :
    ∃ z W', v = .bl z ∧ W.le W' ∧ Rel C W' s c σ H ∧ Kont C σ W' (f z) Q := by
  cases d <;> first | exact k.elim | skip
  obtain ⟨W2, l2, R2, p2⟩ := R.freezeR q
  cases p2
  exact ⟨_, W2, rfl, l2, R2, Kont.up l2 k⟩
theorem ve_and (ha : PE X a (TEv C ma)) (hb : PE X (.BoolOp .And (b :: rest) pos) (TEv C mb)) : PE X (.BoolOp .And (a :: b :: rest) pos) (TEv C (mAnd ma mb)) := PEimp (pe_and ha hb) fun σ H Q ⟨W, s, c, R, k⟩ =>
  ⟨W, s, c, R, (Kont.bind k).thn fun v H1 ⟨W1, s1, c1, d, b, l1, R1, q1, k1⟩ => by
    obtain ⟨z, W2, rfl, l2, R2, k2⟩ := kB_of R1 q1 k1
    refine ⟨z, rfl, ?_⟩
    cases z with
    | true => exact (by rw [if_pos rfl] at k2 ⊢; exact ⟨W2, s1, c1, R2, k2⟩)
    | false => exact (by rw [if_neg Bool.false_ne_true] at k2 ⊢; exact k2 W2 _ H1 (.refl W2) R2 (.fz (.bool _)))⟩
theorem ve_or (ha : PE X a (TEv C ma)) (hb : PE X (.BoolOp .Or (b :: rest) pos) (TEv C mb)) : PE X (.BoolOp .Or (a :: b :: rest) pos) (TEv C (mOr ma mb)) := PEimp (pe_or ha hb) fun σ H Q ⟨W, s, c, R, k⟩ =>
  ⟨W, s, c, R, (Kont.bind k).thn fun v H1 ⟨W1, s1, c1, d, b, l1, R1, q1, k1⟩ => by
    obtain ⟨z, W2, rfl, l2, R2, k2⟩ := kB_of R1 q1 k1
    refine ⟨z, rfl, ?_⟩
    cases z with
    | true => exact (by rw [if_pos rfl] at k2 ⊢; exact k2 W2 _ H1 (.refl W2) R2 (.fz (.bool _)))
    | false => exact (by rw [if_neg Bool.false_ne_true] at k2 ⊢; exact ⟨W2, s1, c1, R2, k2⟩)⟩
theorem ve_not (ha : PE X a (TEv C ma)) : PE X (.UnaryOp .Not a pos) (TEv C (mNot ma)) := PEimp (pe_not ha) fun σ H Q ⟨W, s, c, R, k⟩ =>
  ⟨W, s, c, R, (Kont.bind k).thn fun v H1 ⟨W1, s1, c1, d, b, l1, R1, q1, k1⟩ => by
    obtain ⟨z, W2, rfl, l2, R2, k2⟩ := kB_of R1 q1 k1
    exact ⟨z, rfl, k2 W2 _ H1 (.refl W2) R2 (.fz (.bool _))⟩⟩
theorem ve_one {op : BoolOp} (ha : PE X a (TEv C ma)) : PE X (.BoolOp op [a] pos) (TEv C ma) := pe_one ha
end
/-- one operand -/
def m1 (f : D → DB) (ma : MO) : ME := fun s c => (ma s c).bind fun od s c => kDB ((od.get s c).bind f) s c
def dNeg : D → DB
  | .int i => fl (.int (-i))
  | _ => none
def dInv : D → DB
  | .int i => fl (.int (Builtin.bitNot i))
  | _ => none
theorem t1_of {C : Cg} {r : V → Hp → VK → Prop} {f : D → DB} (h : ∀ W s c σ H x v d b Q, Rel C W s c σ H → Rb C W H x v → f x = some (d, b) → (∀ W' v' H', W.le W' → Rel C W' s c σ H' → Rr C W' s σ H' d b v' → Q v' H') → r v H Q)
    {ma : MO} {σ : St} {H : Hp} {Q : VK} (q : TEv C (m1 f ma) σ H Q) : TOv C ma σ H fun x H1 => r x H1 Q := by
  obtain ⟨W, s, c, R, k⟩ := q
  refine ⟨W, s, c, R, (KontO.bind k).thn fun v H1 ⟨W1, s1, c1, od, l1, R1, q1, k1⟩ => ?_⟩
  cases e1 : od.get s1 c1 with
  | none => rw [e1] at k1; exact k1.elim
  | some d =>
    rw [e1] at k1
    have k2 : Kont C σ W1 (kDB (f d) s1 c1) Q := k1
    cases e2 : f d with
    | none => rw [e2] at k2; exact k2.elim
    | some z =>
      rw [e2] at k2
      obtain ⟨d', b'⟩ := z
      exact h W1 s1 c1 σ H1 d v d' b' Q R1 (q1.read R1 e1) e2 k2
section
variable {X : Cx} {C : Cg} {a b e : Expr} {pos : Pos} {ma mb mc : MO}
theorem ve_neg (ha : PE X a (TOv C ma)) : PE X (.UnaryOp .USub a pos) (TEv C (m1 dNeg ma)) := PEimp (pe_un un_neg ha) fun σ H Q q => t1_of (r := rU fun i => .int (-i)) (fun W s c σ H x v d b Q R a h k => by
  cases x <;> first | (cases h; done) | skip
  obtain ⟨rfl, rfl⟩ := some_fl h
  obtain rfl := a.int
  exact ⟨_, rfl, k W _ H (.refl W) R (.fz (.int _))⟩) q
theorem ve_inv (ha : PE X a (TOv C ma)) : PE X (.UnaryOp .Invert a pos) (TEv C (m1 dInv ma)) := PEimp (pe_un un_inv ha) fun σ H Q q => t1_of (r := rU fun i => .int (Builtin.bitNot i)) (fun W s c σ H x v d b Q R a h k => by
  cases x <;> first | (cases h; done) | skip
  obtain ⟨rfl, rfl⟩ := some_fl h
  obtain rfl := a.int
  exact ⟨_, rfl, k W _ H (.refl W) R (.fz (.int _))⟩) q
end
/-- a op b op' c -/
def mChain (f g : D → D → DB) (ma mb mc : MO) : ME := fun s c => (ma s c).bind fun oa s c => (mb s c).bind fun ob s c => (kDB (match oa.get s c, ob.get s c with
    | some x, some y => f x y
    | _, _ => none) s c).bind fun r s c => kB r.1 fun k => if k = true then (mc s c).bind fun oc s c => kDB (match ob.get s c, oc.get s c with
      | some x, some y => g x y
      | _, _ => none) s c else .ok (.bool false, false) s c
theorem OpS.run' {C : Cg} {r : R2} {f : D → D → DB} (h : OpS C r f) {W : Wd} {s : SL} {c : CL} {σ : St} {H : Hp} {v u : V} {od oe : Od} {Q : VK} (R : Rel C W s c σ H) (a : OdR C W σ od v) (b : OdR C W σ oe u)
    (k : Kont C σ W (kDB (match od.get s c, oe.get s c with
      | some x, some y => f x y
      | _, _ => none) s c) Q) : r v u H Q := by
  cases e1 : od.get s c with
  | none => rw [e1] at k; exact k.elim
  | some x =>
    cases e2 : oe.get s c with
    | none => rw [e1, e2] at k; exact k.elim
    | some y =>
      rw [e1, e2] at k
      have k' : Kont C σ W (kDB (f x y) s c) Q := k
      cases e3 : f x y with
      | none => rw [e3] at k'; exact k'.elim
      | some z =>
        rw [e3] at k'
        obtain ⟨d, b'⟩ := z
        exact h W s c σ H x y v u d b' Q R (a.read R e1) (b.read R e2) e3 k'
section
variable {X : Cx} {C : Cg} {a b e : Expr} {pos : Pos} {ma mb mc : MO} {r r' : R2} {f g : D → D → DB}
theorem tChain_of (h : OpS C r f) (h' : OpS C r' g) {σ : St} {H : Hp} {Q : VK} (q : TEv C (mChain f g ma mb mc) σ H Q) : tChain r r' (TOv C ma) (TOv C mb) (TOv C mc) σ H Q := by
  obtain ⟨W, s, c, R, k⟩ := q
  refine ⟨W, s, c, R, (KontO.bind k).thn fun v H1 ⟨W1, s1, c1, oa, l1, R1, q1, k1⟩ => ?_⟩
  refine ⟨W1, s1, c1, R1, (KontO.bind k1).thn fun u H2 ⟨W2, s2, c2, ob, l2, R2, q2, k2⟩ => ?_⟩
  refine h.run' R2 (q1.mono l2) q2 ((Kont.bind k2).thn fun z H3 ⟨W3, s3, c3, d3, b3, l3, R3, q3, k3⟩ => ?_)
  obtain ⟨zb, W4, rfl, l4, R4, k4⟩ := kB_of R3 q3 k3
  refine ⟨zb, rfl, ?_⟩
  cases zb with
  | false =>
    rw [if_neg Bool.false_ne_true] at k4 ⊢
    exact k4 W4 _ H3 (.refl W4) R4 (.fz (.bool _))
  | true =>
    rw [if_pos rfl] at k4 ⊢
    refine ⟨W4, s3, c3, R4, (KontO.bind k4).thn fun w H5 ⟨W5, s5, c5, oc, l5, R5, q5, k5⟩ => ?_⟩
    exact h'.run' R5 (q2.mono (l3.trans (l4.trans l5))) q5 k5
theorem ve_chain {op op' : CmpOp} {c : Expr} (ho : OpR X (compareOp op) r) (ho' : OpR X (compareOp op') r') (h : OpS C r f) (h' : OpS C r' g) (ha : PE X a (TOv C ma)) (hb : PE X b (TOv C mb)) (hc : PE X c (TOv C mc))
    (hm : lastMarks [op, op'] [b, c] = false) : PE X (.Compare a [op, op'] [b, c] pos) (TEv C (mChain f g ma mb mc)) := PEimp (pe_chain ho ho' ha hb hc hm) fun _ _ _ q => tChain_of h h' q
theorem vt_chain {op op' : CmpOp} {c : Expr} (ho : OpR X (compareOp op) r) (ho' : OpR X (compareOp op') r') (h : OpS C r f) (h' : OpS C r' g) (ha : PE X a (TOv C ma)) (hb : PE X b (TOv C mb)) (hc : PE X c (TOv C mc))
    (hm : lastMarks [op, op'] [b, c] = false) : PT X (.Compare a [op, op'] [b, c] pos) (TTv C (mT (mChain f g ma mb mc))) := PTimp (pt_chain ho ho' ha hb hc hm) fun _ _ _ q => tB_of (fun _ _ _ q => tChain_of h h' q) q
end
end EV

set_option Elab.async false
set_option linter.all false
set_option maxRecDepth 100000
/-! EV 7: places that are changed; texts' methods; isinstance; f-strings -/
namespace EV
open PySem PySem.Spec L2
open PyProof.Rows hiding St

/-! ### a name's place: its own slot, or a cell -/
inductive Pl where
  | sl (i : Nat) | ce (k : Nat)
def plOf (s : SL) (i : Nat) : Option Pl := match s[i]? with
  | some (.ow _) => some (.sl i)
  | some (.fz (.cell k)) => some (.ce k)
  | _ => none
def plGet (s : SL) (c : CL) (i : Nat) : Option D := match s[i]? with
  | some (.ow d) => some d
  | some (.fz (.cell k)) => c[k]?
  | _ => none
def plS (s : SL) (i : Nat) (d : D) : SL := match s[i]? with
  | some (.ow _) => s.set i (.ow d)
  | _ => s
def plC (s : SL) (c : CL) (i : Nat) (d : D) : CL := match s[i]? with
  | some (.fz (.cell k)) => c.set k d
  | _ => c
section
variable {C : Cg} {W : Wd} {s : SL} {c : CL} {σ : St} {H : Hp} {d : D}
theorem Rel.place (r : Rel C W s c σ H) {i : Nat} (h : plGet s c i = some d) : ∃ a o, σ[i]? = some (some (.ref a)) ∧ H a = some o ∧ Obo C.G W d o ∧
    ∀ d' o', Obo C.G W d' o' → Rel C W (plS s i d') (plC s c i d') σ (upd H a o') := by
  unfold plGet at h
  cases e : s[i]? with
  | none => rw [e] at h; cases h
  | some x =>
    rw [e] at h
    have frame : ∀ {a o' b u}, b ≠ a → H b = some u → upd H a o' b = some u := fun n q => by
      rw [upd_ne n]
      exact q
    cases x with
    | no => cases h
    | ow d0 =>
      cases h
      obtain ⟨a, o, e1, e2, e3, f1, f2, f3⟩ := r.sow i d e
      refine ⟨a, o, e1, e2, e3, fun d' o' ob => ?_⟩
      have hS : plS s i d' = s.set i (.ow d') := by unfold plS; rw [e]
      have hC : plC s c i d' = c := by unfold plC; rw [e]
      rw [hS, hC]
      have hi : i < s.length := (List.getElem?_eq_some_iff.mp e).1
      refine ⟨fun b u q => frame (fun z => by rw [z, f1] at q; cases q) (r.sub b u q), fun b u q m => frame (fun z => by rw [z, f3] at q; cases q) (r.fr b u q m), r.nw, r.clen, r.rin, r.rnw, r.cnd, fun j d b q1 q2 => ?_, by rw [List.length_set]; exact r.slen,
        fun j d q => ?_, fun j d q => ?_, fun j k x y b q1 q2 q3 q4 => ?_⟩
      · obtain ⟨g1, u, g2, g3⟩ := r.cel j d b q1 q2
        exact ⟨g1, u, frame (fun z => f2 (by rw [← z]; exact List.mem_of_getElem? q2)) g2, g3⟩
      · rcases set_get q with ⟨_, q⟩ | ⟨_, q⟩
        · cases q
        · exact r.sfz j d q
      · rcases set_get q with ⟨z, q⟩ | ⟨z, q⟩
        · cases q
          subst z
          exact ⟨a, o', e1, upd_same, ob, f1, f2, f3⟩
        · obtain ⟨b, u, g1, g2, g3, g4⟩ := r.sow j d q
          exact ⟨b, u, g1, frame (fun y => z (r.dis i j _ _ a e q e1 (by rw [← y]; exact g1))) g2, g3, g4⟩
      · have w : ∀ {j : Nat} {x : D}, (s.set i (.ow d'))[j]? = some (.ow x) → ∃ x', s[j]? = some (.ow x') := fun {j x} q => by
          rcases set_get q with ⟨z, q⟩ | ⟨_, q⟩
          · subst z
            exact ⟨_, e⟩
          · exact ⟨_, q⟩
        obtain ⟨x', w1⟩ := w q1
        obtain ⟨y', w2⟩ := w q2
        exact r.dis j k x' y' b w1 w2 q3 q4
    | fz d0 =>
      cases d0 <;> first | (cases h; done) | skip
      rename_i k
      have h' : c[k]? = some d := h
      obtain ⟨v, e1, e2⟩ := r.sfz i _ e
      cases e2 with
      | @cell _ a hk =>
        obtain ⟨g1, o, g2, g3⟩ := r.cel k d a h' hk
        refine ⟨a, o, e1, g2, g3, fun d' o' ob => ?_⟩
        have hS : plS s i d' = s := by unfold plS; rw [e]
        have hC : plC s c i d' = c.set k d' := by unfold plC; rw [e]
        rw [hS, hC]
        have ha : a ∈ W.R := List.mem_of_getElem? hk
        refine ⟨fun b u q => frame (fun z => by rw [z, g1] at q; cases q) (r.sub b u q), fun b u q m => frame (fun z => m (z ▸ ha)) (r.fr b u q m), r.nw, by rw [List.length_set]; exact r.clen, r.rin, r.rnw, r.cnd, fun j d b q1 q2 => ?_, r.slen, r.sfz, fun j d q => ?_, r.dis⟩
        · rcases set_get q1 with ⟨z, q⟩ | ⟨z, q⟩
          · subst z q
            rw [hk] at q2
            cases q2
            exact ⟨g1, o', upd_same, ob⟩
          · obtain ⟨n1, u, n2, n3⟩ := r.cel j d b q q2
            refine ⟨n1, u, frame (fun y => z ?_) n2, n3⟩
            obtain ⟨l1, w1⟩ := List.getElem?_eq_some_iff.mp hk
            obtain ⟨l2, w2⟩ := List.getElem?_eq_some_iff.mp q2
            exact (List.getElem_inj r.cnd).mp (w1.trans (y.symm.trans w2.symm))
        · obtain ⟨b, u, n1, n2, n3, n4, n5, n6⟩ := r.sow j d q
          exact ⟨b, u, n1, frame (fun y => n5 (y ▸ ha)) n2, n3, n4, n5, n6⟩
end

/-! ### methods that change a list -/
/-- the method by values, by trees: the content, the arguments: the new content, the answer -/
def MutS (C : Cg) (r : V → List V → Hp → VK → Prop) (f : D → List D → Option (D × D)) : Prop := ∀ W s c σ H a o vs d ds d' z Q, Rel C W s c σ H → H a = some o → Obo C.G W d o → Rps C.G W ds vs → f d ds = some (d', z) →
  (∀ o' v, Obo C.G W d' o' → Rp C.G W z v → Q v (upd H a o')) → r (.ref a) vs H Q
def isLst (d : Option D) : Bool := match d with
  | some (.lst _) => true
  | _ => false
def kMut (i : Nat) (o : Option (D × D)) (s : SL) (c : CL) : Ot (D × Bool) := match o with
  | some (d', z) => .ok (z, false) (plS s i d') (plC s c i d')
  | none => .bad
/-- x.m(..), x's list changed -/
def mMut (f : D → List D → Option (D × D)) (i : Nat) (m : MA) : ME := fun s c => if isLst (plGet s c i) = true then (m s c).bind fun ods s c => kMut i ((plGet s c i).bind fun d => (valsOf ods).bind (f d)) s c else .bad
def mMut0 (f : D → List D → Option (D × D)) (i : Nat) : ME := fun s c => if isLst (plGet s c i) = true then kMut i ((plGet s c i).bind fun d => f d []) s c else .bad
theorem isLst_ty {C : Cg} {W : Wd} {s : SL} {c : CL} {σ : St} {H : Hp} {i : Nat} (R : Rel C W s c σ H) (h : isLst (plGet s c i) = true) : ∃ a, σ[i]? = some (some (.ref a)) ∧ tyV C.G.K "list" (.ref a) H := by
  cases e : plGet s c i with
  | none => rw [e] at h; cases h
  | some d =>
    rw [e] at h
    cases d <;> first | (cases h; done) | skip
    obtain ⟨a, o, e1, e2, ⟨vs, rfl, _⟩, _⟩ := R.place e
    exact ⟨a, e1, .inl ⟨rfl, vs, SqL.of e2⟩⟩
theorem kMut_of {C : Cg} {r : V → List V → Hp → VK → Prop} {f : D → List D → Option (D × D)} (h : MutS C r f) {W : Wd} {s : SL} {c : CL} {σ : St} {H : Hp} {i : Nat} {a : Addr} {ods : List Od} {vs : List V} {Q : VK} (R : Rel C W s c σ H)
    (ha : σ[i]? = some (some (.ref a))) (q : OdRs C W σ ods vs) (k : Kont C σ W (kMut i ((plGet s c i).bind fun d => (valsOf ods).bind (f d)) s c) Q) : r (.ref a) vs H Q := by
  cases e1 : plGet s c i with
  | none => rw [e1] at k; exact k.elim
  | some d =>
    rw [e1] at k
    cases e2 : valsOf ods with
    | none => rw [e2] at k; exact k.elim
    | some ds =>
      rw [e2] at k
      have k2 : Kont C σ W (kMut i (f d ds) s c) Q := k
      cases e3 : f d ds with
      | none => rw [e3] at k2; exact k2.elim
      | some z =>
        rw [e3] at k2
        obtain ⟨d', z⟩ := z
        obtain ⟨b, o, g1, g2, g3, g4⟩ := R.place e1
        rw [ha] at g1
        cases g1
        exact h W s c σ H a o vs d ds d' z Q R g2 g3 (q.vals e2) e3 fun o' v ob rp => k2 W v _ (.refl W) (g4 d' o' ob) (.fz rp)
def baseOk : Expr → Bool
  | .Call (.Name id _) [] [] _ => id != "super"
  | _ => true
theorem base_eq {o : Expr} {f : Str} {env : Env} (h : baseOk o = true) : attributeBase o f env (eval o env) = eval o env := by
  unfold attributeBase
  split
  · rename_i id p pos
    have h' : (id != "super") = true := h
    simp only [h', Bool.true_or, if_true]
  · rfl
theorem few_ok {env : Env} {pos : Pos} {e : Expr} {es : List Expr} (hs : (e :: es).all noStar = true) (hl : (e :: es).length < 30) :
    ((backTo pos (starEach (e :: es) env)).all (fun x => !x.1) && (backToKw pos (keywordEach [] env)).all (fun x => x.1.isSome) && decide ((e :: es).length + ([] : List Keyword).length + (if ([] : List Keyword).isEmpty then 0 else 1) < 30)) = true := by
  have h1 : ∀ {es : List Expr}, es.all noStar = true → (backTo pos (starEach es env)).all (fun x => !x.1) = true := by
    intro es
    induction es with
    | nil => intro _; rfl
    | cons e es ih =>
      intro h
      rw [List.all_cons, Bool.and_eq_true] at h
      rw [star_no h.1]
      show (!false && (backTo pos (starEach es env)).all (fun x => !x.1)) = true
      rw [ih h.2]
      rfl
  rw [h1 hs]
  have h2 : (e :: es).length + ([] : List Keyword).length + (if ([] : List Keyword).isEmpty then 0 else 1) < 30 := by simpa using hl
  rw [decide_eq_true h2]
  rfl
section
variable {X : Cx} {C : Cg} {x : Str} {i : Nat} {p apos pos : Pos} {e : Expr} {es : List Expr} {m : MA} {name : Str} {id : String} {r : V → List V → Hp → VK → Prop} {f : D → List D → Option (D × D)}
theorem ve_mut (hK : X.K = C.G.K) (slot : Slot "list" name id) (hty : typeOf (.builtin id) = pure (.type "method_descriptor")) (hm : MtR X id r) (h : MutS C r f) (ho : PE X (.Name x p) (tVar i)) (hs : (e :: es).all noStar = true) (hl : (e :: es).length < 30)
    (hline : (apos.endLine == pos.line) = true) (ha : PA X (e :: es) (TAv C m)) : PE X (.Call (.Attribute (.Name x p) name apos) (e :: es) [] pos) (TEv C (mMut f i m)) := by
  have hs' := hs
  rw [List.all_cons, Bool.and_eq_true] at hs'
  refine PEimp (pe_bm F.plainAttrs_list slot hty hm ho ha (base_eq rfl) (few_ok hs hl) hline (star_no hs'.1) (back_no hs'.2)) fun σ H Q ⟨W, s, c, R, k⟩ => ?_
  unfold mMut at k
  by_cases g : isLst (plGet s c i) = true
  · rw [if_pos g] at k
    obtain ⟨a, e1, ty⟩ := isLst_ty R g
    exact ⟨.ref a, e1, hK ▸ ty, W, s, c, R, (KontA.bind k).thn fun vs H1 ⟨W1, s1, c1, ods, l1, R1, q1, k1⟩ => kMut_of h R1 e1 q1 k1⟩
  · rw [if_neg g] at k
    exact k.elim
theorem ve_mut0 (hK : X.K = C.G.K) (slot : Slot "list" name id) (hty : typeOf (.builtin id) = pure (.type "method_descriptor")) (hm : MtR X id r) (h : MutS C r f) (ho : PE X (.Name x p) (tVar i))
    (hline : (apos.endLine == pos.line) = true) : PE X (.Call (.Attribute (.Name x p) name apos) [] [] pos) (TEv C (mMut0 f i)) := by
  refine PEimp (pe_bm0 F.plainAttrs_list slot hty hm ho (base_eq rfl) hline) fun σ H Q ⟨W, s, c, R, k⟩ => ?_
  unfold mMut0 at k
  by_cases g : isLst (plGet s c i) = true
  · rw [if_pos g] at k
    obtain ⟨a, e1, ty⟩ := isLst_ty R g
    exact ⟨.ref a, e1, hK ▸ ty, kMut_of h R e1 (ods := []) .nil k⟩
  · rw [if_neg g] at k
    exact k.elim
end
def fAppend : D → List D → Option (D × D)
  | .lst xs, [d] => if xs.length < sizeLine then some (.lst (xs ++ [d]), .non) else none
  | _, _ => none
def fPop : D → List D → Option (D × D)
  | .lst xs, [] => (xs[xs.length - 1]?).map fun d => (.lst xs.dropLast, d)
  | _, _ => none
def fPopAt : D → List D → Option (D × D)
  | .lst xs, [.int i] => if -(2 ^ 63) ≤ i ∧ i < 2 ^ 63 then (seqIndex? i xs.length).bind fun k => (xs[k]?).map fun d => (.lst (xs.eraseIdx k), d) else none
  | _, _ => none
def fInsert : D → List D → Option (D × D)
  | .lst xs, [.int i, d] => if 0 ≤ i ∧ i < 2 ^ 63 ∧ xs.length < sizeLine then some (.lst (xs.take i.toNat ++ [d] ++ xs.drop i.toNat), .non) else none
  | _, _ => none
def fExtend : D → List D → Option (D × D)
  | .lst xs, [.lst ys] => if xs.length + ys.length ≤ sizeLine then some (.lst (xs ++ ys), .non) else none
  | _, _ => none
def fReverse : D → List D → Option (D × D)
  | .lst xs, [] => some (.lst xs.reverse, .non)
  | _, _ => none
theorem rps1 {C : Cg} {W : Wd} {x : D} {vs : List V} (h : Rps C.G W [x] vs) : ∃ v, vs = [v] ∧ Rp C.G W x v := by
  cases h with
  | cons a t => cases t; exact ⟨_, rfl, a⟩
theorem rps2 {C : Cg} {W : Wd} {x y : D} {vs : List V} (h : Rps C.G W [x, y] vs) : ∃ v u, vs = [v, u] ∧ Rp C.G W x v ∧ Rp C.G W y u := by
  cases h with
  | cons a t =>
    obtain ⟨u, rfl, b⟩ := rps1 t
    exact ⟨_, u, rfl, a, b⟩
theorem Rps.last {C : Cg} {W : Wd} : ∀ {xs : List D} {vs : List V}, Rps C.G W xs vs → Rps C.G W xs.dropLast vs.dropLast
  | _, _, .nil => .nil
  | _, _, .cons _ .nil => .nil
  | _, _, .cons a (.cons b t) => .cons a (Rps.last (.cons b t))
theorem Rps.rev {C : Cg} {W : Wd} {xs : List D} {vs : List V} (h : Rps C.G W xs vs) : Rps C.G W xs.reverse vs.reverse := by
  induction xs generalizing vs with
  | nil => cases h; exact .nil
  | cons x xs ih =>
    cases h with
    | cons a t =>
      rw [List.reverse_cons, List.reverse_cons]
      exact (ih t).append (.cons a .nil)
theorem ifs {α : Type} {p : Prop} [Decidable p] {x : Option α} {y : α} (h : (if p then x else none) = some y) : p ∧ x = some y := by
  by_cases z : p
  · rw [if_pos z] at h
    exact ⟨z, h⟩
  · rw [if_neg z] at h
    cases h
section
variable {C : Cg}
theorem ms_append : MutS C rAppend fAppend := by
  intro W s c σ H a o vs d ds d' z Q R ha ob rs h k
  cases d <;> first | (cases h; done) | skip
  rcases ds with _ | ⟨x, _ | ⟨y, t⟩⟩
  · cases h
  · obtain ⟨h0, h1⟩ := ifs h
    cases h1
    obtain ⟨us, rfl, q⟩ := ob
    obtain ⟨v, rfl, rv⟩ := rps1 rs
    exact ⟨a, us, v, rfl, rfl, ha, by rw [← q.length]; exact h0, k _ _ ⟨_, rfl, q.append (.cons rv .nil)⟩ .non⟩
  · cases h
theorem ms_pop : MutS C rPop fPop := by
  intro W s c σ H a o vs d ds d' z Q R ha ob rs h k
  cases d <;> first | (cases h; done) | skip
  rcases ds with _ | ⟨x, t⟩
  · obtain ⟨us, rfl, q⟩ := ob
    cases rs
    rename_i xs
    have h' : (xs[xs.length - 1]?).map (fun d => (D.lst xs.dropLast, d)) = some (d', z) := h
    cases e : xs[xs.length - 1]? with
    | none => rw [e] at h'; cases h'
    | some y =>
      rw [e] at h'
      cases h'
      obtain ⟨v, e1, rv⟩ := q.get e
      rw [q.length] at e1
      exact ⟨a, us, v, rfl, rfl, ha, e1, k _ _ ⟨_, rfl, q.last⟩ rv⟩
  · cases h
theorem ms_popAt : MutS C rPopAt fPopAt := by
  intro W s c σ H a o vs d ds d' z Q R ha ob rs h k
  cases d <;> first | (cases h; done) | skip
  rcases ds with _ | ⟨x, _ | ⟨y, t⟩⟩
  · cases h
  · cases x <;> first | (cases h; done) | skip
    rename_i xs i
    obtain ⟨us, rfl, q⟩ := ob
    obtain ⟨v, rfl, rv⟩ := rps1 rs
    cases rv
    obtain ⟨⟨h0, h1⟩, h2⟩ := ifs h
    cases e : seqIndex? i xs.length with
    | none => rw [e] at h2; cases h2
    | some n =>
      rw [e] at h2
      have h' : (xs[n]?).map (fun d => (D.lst (xs.eraseIdx n), d)) = some (d', z) := h2
      cases e2 : xs[n]? with
      | none => rw [e2] at h'; cases h'
      | some y =>
        rw [e2] at h'
        cases h'
        obtain ⟨v, e1, rv⟩ := q.get e2
        exact ⟨a, us, i, n, v, rfl, rfl, ha, h0, h1, by rw [← q.length]; exact e, e1, k _ _ ⟨_, rfl, q.erase n⟩ rv⟩
  · cases x <;> cases h
theorem ms_insert : MutS C (fun x vs H Q => ∃ (l : Addr) (xs : List V) (i : Int) (y : V), x = .ref l ∧ vs = [.int i, y] ∧ H l = some (.lst xs) ∧ xs.length < sizeLine ∧ 0 ≤ i ∧ i < 2 ^ 63 ∧ Q .non (upd H l (.lst (xs.take i.toNat ++ [y] ++ xs.drop i.toNat)))) fInsert := by
  intro W s c σ H a o vs d ds d' z Q R ha ob rs h k
  cases d <;> first | (cases h; done) | skip
  rcases ds with _ | ⟨x, _ | ⟨y, _ | ⟨y', t⟩⟩⟩
  · cases h
  · cases x <;> cases h
  · cases x <;> first | (cases h; done) | skip
    obtain ⟨us, rfl, q⟩ := ob
    obtain ⟨v, u, rfl, rv, ru⟩ := rps2 rs
    cases rv
    obtain ⟨⟨h0, h1, h2⟩, h3⟩ := ifs h
    cases h3
    exact ⟨a, us, _, u, rfl, rfl, ha, by rw [← q.length]; exact h2, h0, h1, k _ _ ⟨_, rfl, ((q.take _).append (.cons ru .nil)).append (q.drop _)⟩ .non⟩
  · cases x <;> cases h
theorem ms_extend : MutS C rExtend fExtend := by
  intro W s c σ H a o vs d ds d' z Q R ha ob rs h k
  cases d <;> first | (cases h; done) | skip
  rcases ds with _ | ⟨x, _ | ⟨y, t⟩⟩
  · cases h
  · cases x <;> first | (cases h; done) | skip
    obtain ⟨h0, h1⟩ := ifs h
    cases h1
    obtain ⟨us, rfl, q⟩ := ob
    obtain ⟨v, rfl, rv⟩ := rps1 rs
    cases rv with
    | lst hb qb =>
      exact ⟨a, _, us, _, rfl, rfl, ha, R.sub _ _ hb, by rw [← q.length, ← qb.length]; exact h0, k _ _ ⟨_, rfl, q.append qb⟩ .non⟩
  · cases x <;> cases h
theorem ms_reverse : MutS C rReverse fReverse := by
  intro W s c σ H a o vs d ds d' z Q R ha ob rs h k
  cases d <;> first | (cases h; done) | skip
  rcases ds with _ | ⟨x, t⟩
  · cases h
    obtain ⟨us, rfl, q⟩ := ob
    cases rs
    exact ⟨a, us, rfl, rfl, ha, k _ _ ⟨_, rfl, q.rev⟩ .non⟩
  · cases h
end

/-! ### methods of texts -/
def kStr (d : Option D) (f : Str → Ot (D × Bool)) : Ot (D × Bool) := match d with
  | some (.str z) => f z
  | _ => .bad
/-- o.m(e), o a text -/
def mM1 (f : D → D → DB) (mo me : MO) : ME := fun s c => (mo s c).bind fun od s c => kStr (od.get s c) fun z => (me s c).bind fun oe s c => kDB ((oe.get s c).bind fun y => f (.str z) y) s c
def mM0 (f : D → DB) (mo : MO) : ME := fun s c => (mo s c).bind fun od s c => kStr (od.get s c) fun z => kDB (f (.str z)) s c
def MtS1 (C : Cg) (r : V → List V → Hp → VK → Prop) (f : D → D → DB) : Prop := ∀ W s c σ H z y u d b Q, Rel C W s c σ H → Rb C W H y u → f (.str z) y = some (d, b) →
  (∀ W' v' H', W.le W' → Rel C W' s c σ H' → Rr C W' s σ H' d b v' → Q v' H') → r (.str z) [u] H Q
def MtS0 (C : Cg) (r : V → List V → Hp → VK → Prop) (f : D → DB) : Prop := ∀ W s c σ H z d b Q, Rel C W s c σ H → f (.str z) = some (d, b) →
  (∀ W' v' H', W.le W' → Rel C W' s c σ H' → Rr C W' s σ H' d b v' → Q v' H') → r (.str z) [] H Q
theorem kStr_of {C : Cg} {W : Wd} {s : SL} {c : CL} {σ : St} {H : Hp} {od : Od} {v : V} {f : Str → Ot (D × Bool)} {Q : VK} (R : Rel C W s c σ H) (q : OdR C W σ od v) (k : Kont C σ W (kStr (od.get s c) f) Q) :
    ∃ z, v = .str z ∧ Kont C σ W (f z) Q := by
  cases e : od.get s c with
  | none => rw [e] at k; exact k.elim
  | some d =>
    rw [e] at k
    cases d <;> first | exact k.elim | skip
    exact ⟨_, (q.read R e).str, k⟩
section
variable {X : Cx} {C : Cg} {o e : Expr} {apos pos : Pos} {mo me : MO} {name : Str} {id : String} {r : V → List V → Hp → VK → Prop}
theorem ve_m1 {f : D → D → DB} (slot : Slot "str" name id) (hty : typeOf (.builtin id) = pure (.type "method_descriptor")) (hm : MtR X id r) (h : MtS1 C r f) (ho : PE X o (TOv C mo)) (he : PE X e (TOv C me)) (hs : noStar e = true) (hb : baseOk o = true)
    (hline : (apos.endLine == pos.line) = true) : PE X (.Call (.Attribute o name apos) [e] [] pos) (TEv C (mM1 f mo me)) :=
  PEimp (pe_m1 slot hty hm ho he (by rw [star_no hs]; rfl) (base_eq hb) hline) fun σ H Q ⟨W, s, c, R, k⟩ =>
    ⟨W, s, c, R, (KontO.bind k).thn fun v H1 ⟨W1, s1, c1, od, l1, R1, q1, k1⟩ => by
      obtain ⟨z, rfl, k2⟩ := kStr_of R1 q1 k1
      refine ⟨⟨z, rfl⟩, W1, s1, c1, R1, (KontO.bind k2).thn fun u H2 ⟨W2, s2, c2, oe, l2, R2, q2, k3⟩ => ?_⟩
      cases e1 : oe.get s2 c2 with
      | none => rw [e1] at k3; exact k3.elim
      | some y =>
        rw [e1] at k3
        have k4 : Kont C σ W2 (kDB (f (.str z) y) s2 c2) Q := k3
        cases e2 : f (.str z) y with
        | none => rw [e2] at k4; exact k4.elim
        | some t =>
          rw [e2] at k4
          obtain ⟨d, b⟩ := t
          exact h W2 s2 c2 σ H2 z y u d b Q R2 (q2.read R2 e1) e2 k4⟩
theorem ve_m0 {f : D → DB} (slot : Slot "str" name id) (hty : typeOf (.builtin id) = pure (.type "method_descriptor")) (hm : MtR X id r) (h : MtS0 C r f) (ho : PE X o (TOv C mo)) (hb : baseOk o = true)
    (hline : (apos.endLine == pos.line) = true) : PE X (.Call (.Attribute o name apos) [] [] pos) (TEv C (mM0 f mo)) :=
  PEimp (pe_m0 slot hty hm ho (base_eq hb) hline) fun σ H Q ⟨W, s, c, R, k⟩ =>
    ⟨W, s, c, R, (KontO.bind k).thn fun v H1 ⟨W1, s1, c1, od, l1, R1, q1, k1⟩ => by
      obtain ⟨z, rfl, k2⟩ := kStr_of R1 q1 k1
      refine ⟨⟨z, rfl⟩, ?_⟩
      have k4 : Kont C σ W1 (kDB (f (.str z)) s1 c1) Q := k2
      cases e2 : f (.str z) with
      | none => rw [e2] at k4; exact k4.elim
      | some t =>
        rw [e2] at k4
        obtain ⟨d, b⟩ := t
        exact h W1 s1 c1 σ H1 z d b Q R1 e2 k4⟩
end
def dJoin : D → D → DB
  | .str a, .lst xs => (dStrs xs).bind fun ys => if (ys.map (·.length)).sum + ys.length * a.length ≤ 16777216 then fl (.str (Txt.join a ys)) else none
  | .str a, .tup xs => (dStrs xs).bind fun ys => if (ys.map (·.length)).sum + ys.length * a.length ≤ 16777216 then fl (.str (Txt.join a ys)) else none
  | _, _ => none
def dSplit : D → D → DB
  | .str a, .str b => if (b.length == 0) = false ∧ a.length + 2 ≤ sizeLine then some (.lst ((Txt.split a b).map .str), true) else none
  | _, _ => none
def rJoin (K : PySem.W.Frag) : V → List V → Hp → VK → Prop := fun x xs H Q => ∃ a p, ∃ ys : List Str, x = .str a ∧ xs = [.ref p] ∧ (SqL K H p (ys.map V.str) ∨ SqT K H p (ys.map V.str)) ∧
  (ys.map (·.length)).sum + ys.length * a.length ≤ 16777216 ∧ Q (.str (Txt.join a ys)) H
def rSplit : V → List V → Hp → VK → Prop := fun x xs H Q => ∃ a b, x = .str a ∧ xs = [.str b] ∧ (b.length == 0) = false ∧ a.length + 2 ≤ sizeLine ∧ rNewStrs (Txt.split a b) H Q
section
variable {C : Cg}
theorem mj_join : MtS1 C (rJoin C.G.K) dJoin := by
  intro W s c σ H z y u d b Q R r h k
  have go : ∀ {p us xs}, (SqL C.G.K H p us ∨ SqT C.G.K H p us) → Rps C.G W xs us → ((dStrs xs).bind fun ys => if (ys.map (·.length)).sum + ys.length * z.length ≤ 16777216 then fl (.str (Txt.join z ys)) else none) = some (d, b) → rJoin C.G.K (.str z) [.ref p] H Q := fun {p us xs} hs q e => by
    cases e1 : dStrs xs with
    | none => rw [e1] at e; cases e
    | some ys =>
      rw [e1] at e
      obtain ⟨h0, h1⟩ := ifs e
      obtain ⟨rfl, rfl⟩ := some_fl h1
      refine ⟨z, p, ys, rfl, rfl, ?_, h0, k W _ H (.refl W) R (.fz (.str _))⟩
      rw [← q.strs e1]
      exact hs
  cases y <;> first | (cases h; done) | skip
  · obtain ⟨p, us, rfl, h1, q1⟩ := r.lst R
    exact go (.inl (SqL.of h1)) q1 h
  · obtain ⟨p, us, rfl, h1, q1⟩ := r.tup R
    exact go (.inr h1) q1 h
theorem mj_split : MtS1 C rSplit dSplit := by
  intro W s c σ H z y u d b Q R r h k
  cases y <;> first | (cases h; done) | skip
  obtain ⟨⟨h0, h1⟩, h2⟩ := ifs h
  cases h2
  obtain rfl := r.str
  refine ⟨_, _, rfl, rfl, h0, h1, fun p hp => ?_⟩
  obtain ⟨R', r'⟩ := R.new (d := .lst ((Txt.split z _).map .str)) hp (show Obo C.G W (.lst _) (.lst ((Txt.split z _).map V.str)) from ⟨_, rfl, Rps.ofStrs _⟩)
  exact k W _ _ (.refl W) R' r'
end

/-! ### f-strings -/
def dFmt : D → DB
  | .str z => if z.length ≤ sizeLine then fl (.str z) else none
  | .int i => if i.natAbs.log2 < 1920 then fl (.str (toString i)) else none
  | _ => none
theorem ve_fmt {X : Cx} {C : Cg} {e : Expr} {pos : Pos} {mo : MO} (he : PE X e (TOv C mo)) : PE X (.FormattedValue e (-1) none pos) (TEv C (m1 dFmt mo)) := PEimp (pe_fmt he) fun σ H Q q =>
  t1_of (r := fun x H1 Q => (∃ y : Str, x = .str y ∧ y.length ≤ sizeLine ∧ Q (.str y) H1) ∨ ∃ i : Int, x = .int i ∧ i.natAbs.log2 < 1920 ∧ Q (.str (toString i)) H1) (fun W s c σ H x v d b Q R a h k => by
    cases x <;> first | (cases h; done) | skip
    · obtain ⟨h0, h1⟩ := ifs h
      obtain ⟨rfl, rfl⟩ := some_fl h1
      obtain rfl := a.int
      exact .inr ⟨_, rfl, h0, k W _ H (.refl W) R (.fz (.str _))⟩
    · obtain ⟨h0, h1⟩ := ifs h
      obtain ⟨rfl, rfl⟩ := some_fl h1
      obtain rfl := a.str
      exact .inl ⟨_, rfl, h0, k W _ H (.refl W) R (.fz (.str _))⟩) q
/-- the parts, one behind the other -/
def mJs (acc : Str) : List ME → ME
  | [] => fun s c => .ok (.str acc, false) s c
  | m :: ms => fun s c => (m s c).bind fun r s c => match r.1 with
    | .str y => if (acc ++ y).length ≤ sizeLine then mJs (acc ++ y) ms s c else .bad
    | _ => .bad
inductive VJ (X : Cx) (C : Cg) : List Expr → List ME → Prop where
  | nil : VJ X C [] []
  | cons {e : Expr} {m : ME} {es : List Expr} {ms : List ME} : PE X e (TEv C m) → VJ X C es ms → VJ X C (e :: es) (m :: ms)
theorem VJ.pj {X : Cx} {C : Cg} {es : List Expr} {ms : List ME} (h : VJ X C es ms) : PJ X es (ms.map (TEv C)) := by
  induction h with
  | nil => exact .nil
  | cons a t ih => exact .cons a ih
theorem tJs_of {C : Cg} {σ : St} {Q : VK} : ∀ {ms : List ME} {acc : Str} {H : Hp}, TEv C (mJs acc ms) σ H Q → tJs (ms.map (TEv C)) acc σ H fun out H1 => Q (.str out) H1
  | [], acc, H, ⟨W, s, c, R, k⟩ => k W _ H (.refl W) R (.fz (.str _))
  | m :: ms, acc, H, ⟨W, s, c, R, k⟩ => by
    refine ⟨W, s, c, R, (Kont.bind (k := fun r s c => match r.1 with
      | .str y => if (acc ++ y).length ≤ sizeLine then mJs (acc ++ y) ms s c else .bad
      | _ => .bad) k).thn fun v H1 ⟨W1, s1, c1, d, b, l1, R1, q1, k1⟩ => ?_⟩
    cases d <;> first | exact k1.elim | skip
    rename_i y
    obtain ⟨W2, l2, R2, p2⟩ := R1.freezeR q1
    cases p2
    have k1' : Kont C σ W1 (if (acc ++ y).length ≤ sizeLine then mJs (acc ++ y) ms s1 c1 else .bad) Q := k1
    by_cases g : (acc ++ y).length ≤ sizeLine
    · rw [if_pos g] at k1'
      exact ⟨y, rfl, g, tJs_of ⟨W2, s1, c1, R2, Kont.up l2 k1'⟩⟩
    · rw [if_neg g] at k1'
      exact k1'.elim
theorem ve_joined {X : Cx} {C : Cg} {v1 v2 : Expr} {rest : List Expr} {ms : List ME} {pos : Pos} (h : VJ X C (v1 :: v2 :: rest) ms) : PE X (.JoinedStr (v1 :: v2 :: rest) pos) (TEv C (mJs Str.empty ms)) :=
  PEimp (pe_joined h.pj) fun _ _ _ q => tJs_of q
theorem ve_joined1 {X : Cx} {C : Cg} {e : Expr} {m : ME} {pos : Pos} (h : PE X e (TEv C m)) : PE X (.JoinedStr [e] pos) (TEv C m) := pe_joined1 h
end EV

set_option Elab.async false
set_option linter.all false
set_option maxRecDepth 100000
/-! EV 8: statements, loops -/
namespace EV
open PySem PySem.Spec L2
open PyProof.Rows hiding St

/-! ### the flow -/
inductive Fl where
  | nx (s : SL) (c : CL) | rt (d : D) (b : Bool) (s : SL) (c : CL) | bk (s : SL) (c : CL) | ct (s : SL) (c : CL) | ex (x : XV) (s : SL) (c : CL) | bad
abbrev MS := SL → CL → Fl
def Fl.nxt (o : Fl) (k : MS) : Fl := match o with
  | .nx s c => k s c
  | o => o
def Ot.toF {α : Type} (o : Ot α) (k : α → MS) : Fl := match o with
  | .ok a s c => k a s c
  | .ex x s c => .ex x s c
  | .bad => .bad
def KontS (C : Cg) (W : Wd) (o : Fl) (D : Ends) : Prop := match o with
  | .nx s c => ∀ W' σ H, W.le W' → Rel C W' s c σ H → D.nx σ H
  | .rt d b s c => ∀ W' v σ H, W.le W' → Rel C W' s c σ H → Rr C W' s σ H d b v → D.rt v H
  | .bk s c => ∀ W' σ H, W.le W' → Rel C W' s c σ H → D.bk σ H
  | .ct s c => ∀ W' σ H, W.le W' → Rel C W' s c σ H → D.ct σ H
  | .ex x s c => ∀ W' σ H, W.le W' → Rel C W' s c σ H → C.KX x W' s c H
  | .bad => False
def TSv (C : Cg) (m : MS) : TS := fun D σ H => ∃ W s c, Rel C W s c σ H ∧ KontS C W (m s c) D
theorem KontS.up {C : Cg} {W W' : Wd} {o : Fl} {D : Ends} (h : W.le W') (k : KontS C W o D) : KontS C W' o D := by
  cases o with
  | nx s c => exact fun W2 σ H l => k W2 σ H (h.trans l)
  | rt d b s c => exact fun W2 v σ H l => k W2 v σ H (h.trans l)
  | bk s c => exact fun W2 σ H l => k W2 σ H (h.trans l)
  | ct s c => exact fun W2 σ H l => k W2 σ H (h.trans l)
  | ex x s c => exact fun W2 σ H l => k W2 σ H (h.trans l)
  | bad => exact k
theorem PSimp {X : Cx} {e : Stmt} {t t' : TS} (h : PS X e t) (i : ∀ D σ H, t' D σ H → t D σ H) : PS X e t' := ⟨fun pins s σ H D I q => h.run pins s σ H D I (i D σ H q)⟩
theorem PSsimp {X : Cx} {e : List Stmt} {t t' : TS} (h : PSs X e t) (i : ∀ D σ H, t' D σ H → t D σ H) : PSs X e t' := ⟨fun pins s σ H D I q => h.run pins s σ H D I (i D σ H q)⟩
section
variable {C : Cg} {W : Wd} {σ : St} {De : Ends}
theorem Kont.bindS {o : Ot (D × Bool)} {k : D × Bool → MS} (h : KontS C W (o.toF k) De) :
    Kont C σ W o fun v H1 => ∃ W1 s1 c1 d b, W.le W1 ∧ Rel C W1 s1 c1 σ H1 ∧ Rr C W1 s1 σ H1 d b v ∧ KontS C W1 (k (d, b) s1 c1) De := by
  cases o with
  | ok a s' c' =>
    obtain ⟨d, b⟩ := a
    exact fun W1 v H1 l r q => ⟨W1, s', c', d, b, l, r, q, KontS.up l h⟩
  | ex x s' c' => exact fun W1 H1 l r => h W1 σ H1 l r
  | bad => exact h
theorem KontT.bindS {o : Ot Bool} {k : Bool → MS} (h : KontS C W (o.toF k) De) :
    KontT C σ W o fun b H1 => ∃ W1 s1 c1, W.le W1 ∧ Rel C W1 s1 c1 σ H1 ∧ KontS C W1 (k b s1 c1) De := by
  cases o with
  | ok a s' c' => exact fun W1 H1 l r => ⟨W1, s', c', l, r, KontS.up l h⟩
  | ex x s' c' => exact fun W1 H1 l r => h W1 σ H1 l r
  | bad => exact h
theorem KontO.bindS {o : Ot Od} {k : Od → MS} (h : KontS C W (o.toF k) De) :
    KontO C σ W o fun v H1 => ∃ W1 s1 c1 od, W.le W1 ∧ Rel C W1 s1 c1 σ H1 ∧ OdR C W1 σ od v ∧ KontS C W1 (k od s1 c1) De := by
  cases o with
  | ok a s' c' => exact fun W1 v H1 l r q => ⟨W1, s', c', a, l, r, q, KontS.up l h⟩
  | ex x s' c' => exact fun W1 H1 l r => h W1 σ H1 l r
  | bad => exact h
theorem KontA.bindS {o : Ot (List Od)} {k : List Od → MS} (h : KontS C W (o.toF k) De) :
    KontA C σ W o fun vs H1 => ∃ W1 s1 c1 ods, W.le W1 ∧ Rel C W1 s1 c1 σ H1 ∧ OdRs C W1 σ ods vs ∧ KontS C W1 (k ods s1 c1) De := by
  cases o with
  | ok a s' c' => exact fun W1 v H1 l r q => ⟨W1, s', c', a, l, r, q, KontS.up l h⟩
  | ex x s' c' => exact fun W1 H1 l r => h W1 σ H1 l r
  | bad => exact h
end

/-! ### small statements -/
def sNx : MS := fun s c => .nx s c
def sSeq (a b : MS) : MS := fun s c => (a s c).nxt b
def sBk : MS := fun s c => .bk s c
def sCt : MS := fun s c => .ct s c
def sBad : MS := fun _ _ => .bad
def sExp (m : ME) : MS := fun s c => (m s c).toF fun _ s c => .nx s c
def sRet (m : ME) : MS := fun s c => (m s c).toF fun r s c => .rt r.1 r.2 s c
def sRetN : MS := fun s c => .rt .non false s c
def sIf (t : MT) (a b : MS) : MS := fun s c => (t s c).toF fun k s c => if k = true then a s c else b s c
section
variable {X : Cx} {C : Cg} {e : Expr} {st : Stmt} {rest p q : List Stmt} {pos : Pos} {m : ME} {a b : MS} {t : MT}
theorem vs_nil : PSs X [] (TSv C sNx) := PSsimp pss_nil fun D σ H ⟨W, s, c, R, k⟩ => k W σ H (.refl W) R
theorem vs_cons (h1 : PS X st (TSv C a)) (h2 : PSs X rest (TSv C b)) : PSs X (st :: rest) (TSv C (sSeq a b)) := PSsimp (pss_cons h1 h2) fun D σ H ⟨W, s, c, R, k⟩ => by
  refine ⟨W, s, c, R, ?_⟩
  have k' : KontS C W ((a s c).nxt b) D := k
  cases e : a s c with
  | nx s' c' =>
    rw [e] at k'
    exact fun W1 σ1 H1 l R1 => ⟨W1, s', c', R1, KontS.up l k'⟩
  | rt d f s' c' => rw [e] at k'; exact k'
  | bk s' c' => rw [e] at k'; exact k'
  | ct s' c' => rw [e] at k'; exact k'
  | ex x s' c' => rw [e] at k'; exact k'
  | bad => rw [e] at k'; exact k'
theorem vs_one (h1 : PS X st (TSv C a)) : PSs X [st] (TSv C a) := pss_one h1
theorem vs_pass : PS X (.Pass pos) (TSv C sNx) := PSimp ps_pass fun D σ H ⟨W, s, c, R, k⟩ => k W σ H (.refl W) R
theorem vs_brk : PS X (.Break pos) (TSv C sBk) := PSimp ps_break fun D σ H ⟨W, s, c, R, k⟩ => k W σ H (.refl W) R
theorem vs_cnt : PS X (.Continue pos) (TSv C sCt) := PSimp ps_continue fun D σ H ⟨W, s, c, R, k⟩ => k W σ H (.refl W) R
theorem vs_never : PS X st (TSv C sBad) := PSimp ps_never fun D σ H ⟨W, s, c, R, k⟩ => k
theorem vss_never {sts : List Stmt} : PSs X sts (TSv C sBad) := PSsimp pss_never fun D σ H ⟨W, s, c, R, k⟩ => k
theorem vs_exp (he : PE X e (TEv C m)) (hs : swapsWith e none pos.line X.env = pure false := by rfl) : PS X (.Expr e pos) (TSv C (sExp m)) := PSimp (ps_expr he hs) fun D σ H ⟨W, s, c, R, k⟩ =>
  ⟨W, s, c, R, (Kont.bindS k).thn fun v H1 ⟨W1, s1, c1, d, b, l, R1, q1, k1⟩ => k1 W1 σ H1 (.refl W1) R1⟩
theorem vs_doc {x j pos'} : PS X (.Expr (.Constant (.str x) j pos) pos') (TSv C sNx) := PSimp ps_doc fun D σ H ⟨W, s, c, R, k⟩ => k W σ H (.refl W) R
theorem vs_ret (he : PE X e (TEv C m)) : PS X (.Return (some e) pos) (TSv C (sRet m)) := PSimp (ps_ret he) fun D σ H ⟨W, s, c, R, k⟩ =>
  ⟨W, s, c, R, (Kont.bindS k).thn fun v H1 ⟨W1, s1, c1, d, b, l, R1, q1, k1⟩ => k1 W1 v σ H1 (.refl W1) R1 q1⟩
theorem vs_retN : PS X (.Return none pos) (TSv C sRetN) := PSimp ps_retN fun D σ H ⟨W, s, c, R, k⟩ => k W .non σ H (.refl W) R (.fz .non)
theorem vs_if {cnd : Expr} (hc : PT X cnd (TTv C t)) (ha : PSs X p (TSv C a)) (hb : PSs X q (TSv C b)) : PS X (.If cnd p q pos) (TSv C (sIf t a b)) := PSimp (ps_if hc ha hb) fun D σ H ⟨W, s, c, R, k⟩ =>
  ⟨W, s, c, R, (KontT.bindS k).thn fun k0 H1 ⟨W1, s1, c1, l, R1, k1⟩ => by
    cases k0 with
    | true => exact ⟨W1, s1, c1, R1, k1⟩
    | false => exact ⟨W1, s1, c1, R1, k1⟩⟩
end

/-! ### stores -/
def svOf (r : D × Bool) : SV := if r.2 = true then .ow r.1 else .fz r.1
theorem svOf_t {d : D} : svOf (d, true) = .ow d := rfl
theorem svOf_f {d : D} : svOf (d, false) = .fz d := rfl
theorem getset {α : Type} {l : List α} {i : Nat} {x y : α} (h : (l.set i x)[i]? = some y) : i < l.length := by
  rw [List.getElem?_set] at h
  split at h
  · split at h
    · assumption
    · cases h
  · rename_i z; exact absurd rfl z
section
variable {C : Cg} {W : Wd} {s : SL} {c : CL} {σ : St} {H : Hp} {d : D} {b : Bool} {v : V}
theorem Rel.setR (r : Rel C W s c σ H) (q : Rr C W s σ H d b v) (i : Nat) : Rel C W (s.set i (svOf (d, b))) c (σ.set i (some v)) H := by
  have oth : ∀ {j : Nat} {z : SV}, i ≠ j → (s.set i z)[j]? = s[j]? := fun h => List.getElem?_set_ne h
  refine ⟨r.sub, r.fr, r.nw, r.clen, r.rin, r.rnw, r.cnd, r.cel, by rw [List.length_set, List.length_set]; exact r.slen, fun j e h => ?_, fun j e h => ?_, fun j k e f a h1 h2 h3 h4 => ?_⟩
  · rcases set_get h with ⟨z, h'⟩ | ⟨z, h'⟩
    · subst z
      have hi : i < σ.length := by rw [← r.slen]; exact getset h
      cases b with
      | true => cases h'
      | false =>
        cases h'
        unfold Rr at q
        rw [if_neg (by decide)] at q
        exact ⟨v, List.getElem?_set_self hi, q⟩
    · obtain ⟨u, e1, e2⟩ := r.sfz j e h'
      exact ⟨u, by rw [List.getElem?_set_ne z]; exact e1, e2⟩
  · rcases set_get h with ⟨z, h'⟩ | ⟨z, h'⟩
    · subst z
      have hi : i < σ.length := by rw [← r.slen]; exact getset h
      cases b with
      | false => cases h'
      | true =>
        cases h'
        unfold Rr at q
        rw [if_pos rfl] at q
        obtain ⟨a, o, rfl, e2, e3, f1, f2, f3, _⟩ := q
        exact ⟨a, o, List.getElem?_set_self hi, e2, e3, f1, f2, f3⟩
    · obtain ⟨a, o, e1, e2⟩ := r.sow j e h'
      exact ⟨a, o, by rw [List.getElem?_set_ne z]; exact e1, e2⟩
  · have one : ∀ {j : Nat} {e : D}, i ≠ j → (s.set i (svOf (d, b)))[i]? = some (.ow f) ∨ (s.set i (svOf (d, b)))[i]? = some (.ow e) → s[j]? = some (.ow e) → True := fun _ _ _ => trivial
    by_cases hj : i = j
    · by_cases hk : i = k
      · exact hj.symm.trans hk
      · exfalso
        subst hj
        have hi : i < σ.length := by rw [← r.slen]; exact getset h1
        rw [List.getElem?_set_self hi] at h3
        have h3' : v = .ref a := by injection h3 with h3; injection h3
        rw [List.getElem?_set_ne hk] at h2 h4
        have hb : b = true := by
          rcases set_get h1 with ⟨_, h'⟩ | ⟨z, _⟩
          · cases b with
            | true => rfl
            | false => cases h'
          · exact absurd rfl z
        subst hb
        unfold Rr at q
        rw [if_pos rfl] at q
        obtain ⟨a', o, e1, _, _, _, _, _, no⟩ := q
        rw [h3'] at e1
        cases e1
        exact no k f h2 h4
    · rw [List.getElem?_set_ne hj] at h1 h3
      by_cases hk : i = k
      · exfalso
        subst hk
        have hi : i < σ.length := by rw [← r.slen]; exact getset h2
        rw [List.getElem?_set_self hi] at h4
        have h4' : v = .ref a := by injection h4 with h4; injection h4
        have hb : b = true := by
          rcases set_get h2 with ⟨_, h'⟩ | ⟨z, _⟩
          · cases b with
            | true => rfl
            | false => cases h'
          · exact absurd rfl z
        subst hb
        unfold Rr at q
        rw [if_pos rfl] at q
        obtain ⟨a', o, e1, _, _, _, _, _, no⟩ := q
        rw [h4'] at e1
        cases e1
        exact no j e h1 h3
      · rw [List.getElem?_set_ne hk] at h2 h4
        exact r.dis j k e f a h1 h2 h3 h4
theorem Rel.setF (r : Rel C W s c σ H) (q : Rp C.G W d v) (i : Nat) : Rel C W (s.set i (.fz d)) c (σ.set i (some v)) H := r.setR (b := false) (.fz q) i
/-- a new object gets its number -/
theorem Rel.cell {a : Addr} {o : HO} (r : Rel C W s c σ H) (h : H a = some o) (ob : Obo C.G W d o) (hF : W.F a = none) (hR : a ∉ W.R) (h0 : C.H0 a = none) (hs : ∀ (i : Nat) e, s[i]? = some (.ow e) → σ[i]? ≠ some (some (.ref a))) :
    W.le ⟨W.F, W.R ++ [a]⟩ ∧ Rel C ⟨W.F, W.R ++ [a]⟩ s (c ++ [d]) σ H ∧ Rp C.G ⟨W.F, W.R ++ [a]⟩ (.cell c.length) (.ref a) := by
  have le : W.le ⟨W.F, W.R ++ [a]⟩ := ⟨fun _ _ e => e, fun i b e => by
    show (W.R ++ [a])[i]? = some b
    rw [List.getElem?_append_left (List.getElem?_eq_some_iff.mp e).1]
    exact e⟩
  have mem : ∀ {b}, b ∈ W.R ++ [a] → b ∈ W.R ∨ b = a := fun h => by
    rcases List.mem_append.mp h with h | h
    · exact .inl h
    · exact .inr (by simpa using h)
  refine ⟨le, ⟨r.sub, fun b u e m => r.fr b u e fun z => m (List.mem_append_left _ z), r.nw, ?_, fun b e => List.mem_append_left _ (r.rin b e), fun b e => ?_, ?_, fun i e b e1 e2 => ?_, r.slen, fun i e h => ?_, fun i e h => ?_, r.dis⟩, .cell ?_⟩
  · show (c ++ [d]).length = (W.R ++ [a]).length
    rw [List.length_append, List.length_append, r.clen]
    rfl
  · rcases mem e with e | e
    · exact r.rnw b e
    · exact .inr (by rw [e]; exact h0)
  · show (W.R ++ [a]).Nodup
    rw [List.nodup_append]
    exact ⟨r.cnd, by simp, fun x hx y hy => by
      have : y = a := by simpa using hy
      rw [this]
      exact fun z => hR (by rw [← z]; exact hx)⟩
  · have e2' : (W.R ++ [a])[i]? = some b := e2
    by_cases hi : i < c.length
    · rw [List.getElem?_append_left hi] at e1
      rw [List.getElem?_append_left (by rw [← r.clen]; exact hi)] at e2'
      obtain ⟨q1, u, q2, q3⟩ := r.cel i e b e1 e2'
      exact ⟨q1, u, q2, q3.mono le⟩
    · have hi' : c.length ≤ i := by omega
      rw [List.getElem?_append_right hi'] at e1
      rw [List.getElem?_append_right (by rw [← r.clen]; exact hi'), ← r.clen] at e2'
      have z : i - c.length = 0 := by
        by_cases z : i - c.length = 0
        · exact z
        · rw [List.getElem?_eq_none (by simp; omega)] at e1
          cases e1
      rw [z] at e1 e2'
      cases e1
      cases e2'
      exact ⟨hF, o, h, ob.mono le⟩
  · obtain ⟨u, e1, e2⟩ := r.sfz i e h
    exact ⟨u, e1, e2.mono le⟩
  · obtain ⟨b, u, e1, e2, e3, f1, f2, f3⟩ := r.sow i e h
    refine ⟨b, u, e1, e2, e3.mono le, f1, fun m => ?_, f3⟩
    rcases mem m with m | m
    · exact f2 m
    · exact hs i e h (by rw [← m]; exact e1)
  · show (W.R ++ [a])[c.length]? = some a
    rw [List.getElem?_append_right (by rw [r.clen]; exact Nat.le_refl _), r.clen, Nat.sub_self]
    rfl
end
def sSet (i : Nat) (m : ME) : MS := fun s c => (m s c).toF fun r s c => .nx (s.set i (svOf r)) c
/-- the new thing gets a number -/
def kCell (i : Nat) (r : D × Bool) : MS := fun s c => if r.2 = true then .nx (s.set i (.fz (.cell c.length))) (c ++ [r.1]) else .bad
def sSetC (i : Nat) (m : ME) : MS := fun s c => (m s c).toF (kCell i)
theorem set_of {C : Cg} {m : ME} {i : Nat} {D : Ends} {σ : St} {H : Hp} (q : TSv C (sSet i m) D σ H) : tAsg (TEv C m) (gName i) D σ H := by
  obtain ⟨W, s, c, R, k⟩ := q
  exact ⟨W, s, c, R, (Kont.bindS k).thn fun v H1 ⟨W1, s1, c1, d, b, l, R1, q1, k1⟩ => k1 W1 _ H1 (.refl W1) (R1.setR q1 i)⟩
theorem setC_of {C : Cg} {m : ME} {i : Nat} {D : Ends} {σ : St} {H : Hp} (q : TSv C (sSetC i m) D σ H) : tAsg (TEv C m) (gName i) D σ H := by
  obtain ⟨W, s, c, R, k⟩ := q
  refine ⟨W, s, c, R, (Kont.bindS k).thn fun v H1 ⟨W1, s1, c1, d, b, l, R1, q1, k1⟩ => ?_⟩
  cases b with
  | false => exact k1.elim
  | true =>
    unfold Rr at q1
    rw [if_pos rfl] at q1
    obtain ⟨a, o, rfl, e2, e3, f1, f2, f3, f4⟩ := q1
    obtain ⟨le, R2, p2⟩ := R1.cell e2 e3 f1 f2 f3 f4
    exact k1 _ _ H1 le (R2.setF p2 i)
section
variable {X : Cx} {C : Cg} {e : Expr} {x : Str} {i : Nat} {pos pos' : Pos} {m : ME}
theorem vs_set (hN : X.N.Nodup) (hi : X.N[i]? = some x) (hx : Loc X.env.scope x) (he : PE X e (TEv C m)) (hs : swapsWith e (some (.Name x pos')) pos.line X.env = pure false := by rfl) (hf : X.fn x = true ∨ X.env.scope.names.lookup x = some .local := by first | exact .inl rfl | exact .inr rfl | assumption) :
    PS X (.Assign [.Name x pos'] e pos) (TSv C (sSet i m)) := PSimp (ps_set hN hi hx he hs hf) fun _ _ _ q => set_of q
theorem vs_setC (hN : X.N.Nodup) (hi : X.N[i]? = some x) (hx : Loc X.env.scope x) (he : PE X e (TEv C m)) (hs : swapsWith e (some (.Name x pos')) pos.line X.env = pure false := by rfl) (hf : X.fn x = true ∨ X.env.scope.names.lookup x = some .local := by first | exact .inl rfl | exact .inr rfl | assumption) :
    PS X (.Assign [.Name x pos'] e pos) (TSv C (sSetC i m)) := PSimp (ps_set hN hi hx he hs hf) fun _ _ _ q => setC_of q
end

/-! ### targets -/
abbrev MG := D → SL → Option SL
def TGv (C : Cg) (g : MG) : TG := fun v σ H Q => ∃ W s c d, Rel C W s c σ H ∧ Rp C.G W d v ∧ ∃ s', g d s = some s' ∧ ∀ σ', Rel C W s' c σ' H → Q σ' H
def TGsv (C : Cg) (g : List D → SL → Option SL) : TGs := fun vs σ H Q => ∃ W s c ds, Rel C W s c σ H ∧ Rps C.G W ds vs ∧ ∃ s', g ds s = some s' ∧ ∀ σ', Rel C W s' c σ' H → Q σ' H
def gN (i : Nat) : MG := fun d s => some (s.set i (.fz d))
def gsNil : List D → SL → Option SL
  | [], s => some s
  | _, _ => none
def gsCons (g : MG) (r : List D → SL → Option SL) : List D → SL → Option SL
  | d :: ds, s => (g d s).bind (r ds)
  | _, _ => none
def gT (n : Nat) (g : List D → SL → Option SL) : MG
  | .tup ds, s => if ds.length = n then g ds s else none
  | _, _ => none
theorem PGimp {X : Cx} {e : Expr} {t t' : TG} (h : PG X e t) (i : ∀ v σ H Q, t' v σ H Q → t v σ H Q) : PG X e t' := ⟨fun pins s σ H v u Q I r q => h.run pins s σ H v u Q I r (i v σ H Q q)⟩
theorem PGsimp {X : Cx} {e : List Expr} {t t' : TGs} (h : PGs X e t) (i : ∀ v σ H Q, t' v σ H Q → t v σ H Q) : PGs X e t' := ⟨fun pins s σ H v u Q I r q => h.run pins s σ H v u Q I r (i v σ H Q q)⟩
section
variable {X : Cx} {C : Cg} {e : Expr} {es : List Expr} {x : Str} {i n k : Nat} {pos : Pos} {g : MG} {r : List D → SL → Option SL}
theorem vg_name (hN : X.N.Nodup) (hi : X.N[i]? = some x) (hx : Loc X.env.scope x) (hf : X.fn x = true ∨ X.env.scope.names.lookup x = some .local := by first | exact .inl rfl | exact .inr rfl | assumption) : PG X (.Name x pos) (TGv C (gN i)) :=
  PGimp (pg_name hN hi hx hf) fun v σ H Q ⟨W, s, c, d, R, p, s', e, q⟩ => by
    cases e
    exact q _ (R.setF p i)
theorem vg_nil : PGs X [] (TGsv C gsNil) := PGsimp pgs_nil fun vs σ H Q ⟨W, s, c, ds, R, p, s', e, q⟩ => by
  cases p with
  | nil =>
    cases e
    exact ⟨rfl, q σ R⟩
  | cons _ _ => cases e
theorem vg_cons (h1 : PG X e (TGv C g)) (h2 : PGs X es (TGsv C r)) (hs : (assignEach (e :: es) X.env).map (·.2) = assign e X.env :: (assignEach es X.env).map (·.2) := by rfl) : PGs X (e :: es) (TGsv C (gsCons g r)) :=
  PGsimp (pgs_cons h1 h2 hs) fun vs σ H Q ⟨W, s, c, ds, R, p, s', e, q⟩ => by
    cases p with
    | nil => cases e
    | @cons d v ds vs a t =>
      have e' : (g d s).bind (r ds) = some s' := e
      cases e1 : g d s with
      | none => rw [e1] at e'; cases e'
      | some s1 =>
        rw [e1] at e'
        exact ⟨v, vs, rfl, W, s, c, d, R, a, s1, e1, fun σ1 R1 => ⟨W, s1, c, ds, R1, t, s', e', q⟩⟩
theorem vg_tup (hK : X.K = C.G.K) (hc : X.calm = true) (h : PGs X es (TGsv C r)) (hn : (assignEach es X.env).length = n := by rfl) (hst : (assignEach es X.env).findIdx? (·.1) = none := by rfl) : PG X (.Tuple es k pos) (TGv C (gT n r)) :=
  PGimp (pg_tup hc h hn hst) fun v σ H Q ⟨W, s, c, d, R, p, s', e, q⟩ => by
    cases d <;> first | (cases e; done) | skip
    rename_i ds
    obtain ⟨h0, h1⟩ := ifs e
    cases p with
    | tup hq rs =>
      rw [hK]
      exact ⟨_, _, rfl, SqT.mono hq R.sub, by rw [← rs.length]; exact h0, W, s, c, ds, R, rs, s', h1, q⟩
end
def kG (g : MG) (r : D × Bool) : MS := fun s c => match g r.1 s with
  | some s => .nx s c
  | none => .bad
def sAsg (g : MG) (m : ME) : MS := fun s c => (m s c).toF (kG g)
theorem vs_asg {X : Cx} {C : Cg} {tg e : Expr} {g : MG} {m : ME} {pos : Pos} (he : PE X e (TEv C m)) (hg : PG X tg (TGv C g)) (hs : swapsWithSole [tg] e pos.line X.env = pure false := by rfl) (hw : swappedStores [tg] e X.env = pure none := by rfl)
    (h1 : (assignEach [tg] X.env).map (·.2) = [assign tg X.env] := by rfl) : PS X (.Assign [tg] e pos) (TSv C (sAsg g m)) := PSimp (ps_asg he hg hs hw h1) fun D σ H ⟨W, s, c, R, k⟩ =>
  ⟨W, s, c, R, (Kont.bindS k).thn fun v H1 ⟨W1, s1, c1, d, b, l, R1, q1, k1⟩ => by
    obtain ⟨W2, l2, R2, p2⟩ := R1.freezeR q1
    have k2 : KontS C W1 (match g d s1 with
      | some s => .nx s c1
      | none => .bad) D := k1
    cases e1 : g d s1 with
    | none => rw [e1] at k2; exact k2.elim
    | some s2 =>
      rw [e1] at k2
      exact ⟨W2, s1, c1, d, R2, p2, s2, e1, fun σ' R' => k2 W2 σ' H1 l2 R'⟩⟩
end EV

set_option Elab.async false
set_option linter.all false
set_option maxRecDepth 100000
/-! EV 9: things held; stores of two at once; x[i] = v; loops -/
namespace EV
open PySem PySem.Spec L2
open PyProof.Rows hiding St

/-! ### a new thing is held while the next expression runs -/
def Cg.hold (C : Cg) (a : Addr) (o : HO) : Cg := { C with H0 := upd C.H0 a o, F0 := fun b => if b = a then none else C.F0 b }
section
variable {C : Cg} {W W' : Wd} {s : SL} {c : CL} {σ : St} {H : Hp} {d : D} {b : Bool} {v : V} {a : Addr} {o : HO}
theorem Rel.hold (r : Rel C W s c σ H) (h : H a = some o) (hF : W.F a = none) (hR : a ∉ W.R) (hs : ∀ (i : Nat) e, s[i]? = some (.ow e) → σ[i]? ≠ some (some (.ref a))) : Rel (C.hold a o) W s c σ H := by
  refine ⟨r.sub, fun b u e m => ?_, fun b u e => ?_, r.clen, r.rin, fun b e => ?_, r.cnd, r.cel, r.slen, r.sfz, fun i e q => ?_, r.dis⟩
  · by_cases hb : b = a
    · subst hb
      have e' : upd C.H0 b o b = some u := e
      rw [upd_same] at e'
      rw [h, ← e']
    · have e' : upd C.H0 a o b = some u := e
      rw [upd_ne hb] at e'
      exact r.fr b u e' m
  · have hb : b ≠ a := fun z => by rw [z, hF] at e; cases e
    rcases r.nw b u e with q | q
    · left
      show (if b = a then none else C.F0 b) = some u
      rw [if_neg hb]
      exact q
    · right
      show upd C.H0 a o b = none
      rw [upd_ne hb]
      exact q
  · have hb : b ≠ a := fun z => hR (by rw [← z]; exact e)
    rcases r.rnw b e with q | q
    · exact .inl q
    · right
      show upd C.H0 a o b = none
      rw [upd_ne hb]
      exact q
  · obtain ⟨b, u, e1, e2, e3, f1, f2, f3⟩ := r.sow i e q
    refine ⟨b, u, e1, e2, e3, f1, f2, ?_⟩
    have hb : b ≠ a := fun z => hs i e q (by rw [← z]; exact e1)
    show upd C.H0 a o b = none
    rw [upd_ne hb]
    exact f3
theorem hold_none {b : Addr} (h : (C.hold a o).H0 b = none) : b ≠ a ∧ C.H0 b = none := by
  have h' : upd C.H0 a o b = none := h
  by_cases hb : b = a
  · subst hb
    rw [upd_same] at h'
    cases h'
  · rw [upd_ne hb] at h'
    exact ⟨hb, h'⟩
theorem Rel.unhold (r : Rel (C.hold a o) W s c σ H) (h0 : C.H0 a = none) : Rel C W s c σ H := by
  refine ⟨r.sub, fun b u e m => r.fr b u ?_ m, fun b u e => ?_, r.clen, r.rin, fun b e => ?_, r.cnd, r.cel, r.slen, r.sfz, fun i e q => ?_, r.dis⟩
  · show upd C.H0 a o b = some u
    rw [upd_ne (ne_of_none e h0)]
    exact e
  · rcases r.nw b u e with q | q
    · have q' : (if b = a then none else C.F0 b) = some u := q
      by_cases hb : b = a
      · rw [if_pos hb] at q'
        cases q'
      · rw [if_neg hb] at q'
        exact .inl q'
    · exact .inr (hold_none q).2
  · rcases r.rnw b e with q | q
    · exact .inl q
    · exact .inr (hold_none q).2
  · obtain ⟨b, u, e1, e2, e3, f1, f2, f3⟩ := r.sow i e q
    exact ⟨b, u, e1, e2, e3, f1, f2, (hold_none f3).2⟩
theorem Rel.held (r : Rel (C.hold a o) W s c σ H) (h0 : a ∉ C.R0) : H a = some o ∧ W.F a = none ∧ a ∉ W.R ∧ ∀ (i : Nat) e, s[i]? = some (.ow e) → σ[i]? ≠ some (some (.ref a)) := by
  have hR : a ∉ W.R := fun z => by
    rcases r.rnw a z with q | q
    · exact h0 q
    · exact (hold_none q).1 rfl
  refine ⟨r.fr a o upd_same hR, ?_, hR, fun i e q z => ?_⟩
  · cases e : W.F a with
    | none => rfl
    | some u =>
      rcases r.nw a u e with q | q
      · have q' : (if a = a then none else C.F0 a) = some u := q
        rw [if_pos rfl] at q'
        cases q'
      · exact absurd rfl (hold_none q).1
  · obtain ⟨b, u, e1, e2, e3, f1, f2, f3⟩ := r.sow i e q
    rw [z] at e1
    cases e1
    exact (hold_none f3).1 rfl
theorem Rr.unhold (q : Rr (C.hold a o) W s σ H d b v) : Rr C W s σ H d b v := by
  unfold Rr at q ⊢
  cases b with
  | false => exact q
  | true =>
    rw [if_pos rfl] at q ⊢
    obtain ⟨p, u, e1, e2, e3, f1, f2, f3, f4⟩ := q
    exact ⟨p, u, e1, e2, e3, f1, f2, (hold_none f3).2, f4⟩
theorem Rr.apart (q : Rr (C.hold a o) W s σ H d true v) : v ≠ .ref a := by
  unfold Rr at q
  rw [if_pos rfl] at q
  obtain ⟨p, u, rfl, e2, e3, f1, f2, f3, f4⟩ := q
  exact fun z => (hold_none f3).1 (by injection z)
theorem Kont.hold {oc : Ot (D × Bool)} {k : D × Bool → MS} {De : Ends} (h0 : C.H0 a = none) (h : KontS C W (oc.toF k) De) :
    Kont (C.hold a o) σ W oc fun v H1 => ∃ W1 s1 c1 d b, W.le W1 ∧ Rel (C.hold a o) W1 s1 c1 σ H1 ∧ Rr (C.hold a o) W1 s1 σ H1 d b v ∧ KontS C W1 (k (d, b) s1 c1) De := by
  cases oc with
  | ok x s' c' =>
    obtain ⟨d, b⟩ := x
    exact fun W1 v H1 l r q => ⟨W1, s', c', d, b, l, r, q, KontS.up l h⟩
  | ex x s' c' => exact fun W1 H1 l r => h W1 σ H1 l (r.unhold h0)
  | bad => exact h
/-- a result stays one behind a store of another thing -/
theorem Rr.set {d' : D} {b' : Bool} {v' : V} {i : Nat} (r : Rel C W s c σ H) (q : Rr C W s σ H d b v) (hne : b = true → b' = true → v' ≠ v) : Rr C W (s.set i (svOf (d', b'))) (σ.set i (some v')) H d b v := by
  unfold Rr at q ⊢
  cases b with
  | false => exact q
  | true =>
    rw [if_pos rfl] at q ⊢
    obtain ⟨p, u, e1, e2, e3, f1, f2, f3, f4⟩ := q
    refine ⟨p, u, e1, e2, e3, f1, f2, f3, fun j e h z => ?_⟩
    rcases set_get h with ⟨y, h'⟩ | ⟨y, h'⟩
    · subst y
      have hi : i < σ.length := by rw [← r.slen]; exact getset h
      rw [List.getElem?_set_self hi] at z
      have z' : v' = .ref p := by injection z with z; injection z
      cases b' with
      | false => cases h'
      | true => exact hne rfl rfl (by rw [z', e1])
    · rw [List.getElem?_set_ne y] at z
      exact f4 j e h' z
end
/-- the same readings, whatever the ground -/
def VG (C : Cg) (P : Cg → Prop) : Prop := ∀ H0 F0 R0, P ⟨C.G, H0, F0, R0, C.KX⟩
def TEg (C : Cg) (m : ME) : TE := fun σ H Q => ∃ H0 F0 R0, TEv ⟨C.G, H0, F0, R0, C.KX⟩ m σ H Q
theorem peg {X : Cx} {C : Cg} {e : Expr} {m : ME} (h : ∀ H0 F0 R0, PE X e (TEv ⟨C.G, H0, F0, R0, C.KX⟩ m)) : PE X e (TEg C m) := ⟨fun pins s σ H Q I ⟨H0, F0, R0, q⟩ => (h H0 F0 R0).run pins s σ H Q I q⟩

/-! ### a, b = x, y -/
def sPar (i j : Nat) (ma mb : ME) : MS := fun s c => (ma s c).toF fun r s c => (mb s c).toF fun r' s c => .nx ((s.set i (svOf r)).set j (svOf r')) c
def sPar3 (i j l : Nat) (ma mb mc : ME) : MS := fun s c => (ma s c).toF fun r s c => (mb s c).toF fun r' s c => (mc s c).toF fun r'' s c => .nx (((s.set i (svOf r)).set j (svOf r')).set l (svOf r'')) c
section
variable {C : Cg} {W : Wd} {s : SL} {c : CL} {σ : St} {H : Hp} {d : D} {b : Bool} {v : V}
/-- the next reading, the thing v at hand -/
theorem next_of {m : ME} {k : D × Bool → MS} {De : Ends} {Q : VK} (R : Rel C W s c σ H) (q : Rr C W s σ H d b v) (h : KontS C W ((m s c).toF k) De)
    (n : ∀ v' H' W' s' c' d' b', W.le W' → Rel C W' s' c' σ H' → Rr C W' s' σ H' d b v → Rr C W' s' σ H' d' b' v' → (b = true → b' = true → v ≠ v') → KontS C W' (k (d', b') s' c') De → Q v' H') : TEg C m σ H Q := by
  cases b with
  | false =>
    refine ⟨C.H0, C.F0, C.R0, W, s, c, R, (Kont.bindS h).thn fun v' H' ⟨W', s', c', d', b', l, R', q', k'⟩ => ?_⟩
    unfold Rr at q
    rw [if_neg (by decide)] at q
    exact n v' H' W' s' c' d' b' l R' (.fz (q.mono l)) q' (fun z => by cases z) k'
  | true =>
    unfold Rr at q
    rw [if_pos rfl] at q
    obtain ⟨a, o, rfl, e2, e3, f1, f2, f3, f4⟩ := q
    refine ⟨(C.hold a o).H0, (C.hold a o).F0, (C.hold a o).R0, W, s, c, R.hold e2 f1 f2 f4, (Kont.hold f3 h).thn fun v' H' ⟨W', s', c', d', b', l, R', q', k'⟩ => ?_⟩
    obtain ⟨g1, g2, g3, g4⟩ := R'.held fun z => f2 (R.rin a z)
    refine n v' H' W' s' c' d' b' l (R'.unhold f3) ?_ q'.unhold (fun _ z => ?_) k'
    · unfold Rr
      rw [if_pos rfl]
      exact ⟨a, o, rfl, g1, e3.mono l, g2, g3, f3, g4⟩
    · subst z
      exact fun z => q'.apart z.symm
end
section
variable {X : Cx} {C : Cg} {i j l : Nat} {x y z : Str} {a b e : Expr} {ma mb mc : ME} {px py pz pt pos : Pos} {kt k2 pt2}
theorem vs_par (hc : X.calm = true) (hN : X.N.Nodup) (hi : X.N[i]? = some x) (hj : X.N[j]? = some y) (hij : i ≠ j)
    (hx : X.env.scope.names.lookup x = some .local) (hy : X.env.scope.names.lookup y = some .local) (ha : PE X a (TEv C ma)) (hb : ∀ H0 F0 R0, PE X b (TEv ⟨C.G, H0, F0, R0, C.KX⟩ mb)) (na : noStar a = true) (nb : noStar b = true)
    (hw : swappedStores [.Tuple [.Name x px, .Name y py] kt pt] (.Tuple [a, b] k2 pt2) X.env = pure (some [x, y]))
    (hs : swapsWithSole [.Tuple [.Name x px, .Name y py] kt pt] (.Tuple [a, b] k2 pt2) pos.line X.env = pure false := by rfl) :
    PS X (.Assign [.Tuple [.Name x px, .Name y py] kt pt] (.Tuple [a, b] k2 pt2) pos) (TSv C (sPar i j ma mb)) :=
  PSimp (ps_par hc hN hi hj hij hx hy (pa_cons ha (pa_cons (peg hb) pa_nil (star_no nb)) (star_no na)) hw hs) fun D σ H ⟨W, s, c, R, k⟩ =>
    ⟨W, s, c, R, (Kont.bindS k).thn fun v H1 ⟨W1, s1, c1, d, b, l, R1, q1, k1⟩ => next_of R1 q1 k1 fun v' H' W' s' c' d' b' l' R' qa qb ne k2 => ⟨v, v', rfl, by
      exact k2 W' _ H' (.refl W') ((R'.setR qa i).setR (qb.set R' fun z y => ne y z) j)⟩⟩
theorem vs_par3 (hc : X.calm = true) (hN : X.N.Nodup) (hi : X.N[i]? = some x) (hj : X.N[j]? = some y) (hl : X.N[l]? = some z) (hij : i ≠ j) (hil : i ≠ l) (hjl : j ≠ l)
    (hx : X.env.scope.names.lookup x = some .local) (hy : X.env.scope.names.lookup y = some .local) (hz : X.env.scope.names.lookup z = some .local)
    (ha : PE X a (TEv C ma)) (hb : PE X b (TEv C mb)) (he : PE X e (TEv C mc)) (na : noStar a = true) (nb : noStar b = true) (nc : noStar e = true)
    (hw : swappedStores [.Tuple [.Name x px, .Name y py, .Name z pz] kt pt] (.Tuple [a, b, e] k2 pt2) X.env = pure (some [x, y, z]))
    (hs : swapsWithSole [.Tuple [.Name x px, .Name y py, .Name z pz] kt pt] (.Tuple [a, b, e] k2 pt2) pos.line X.env = pure false := by rfl) :
    PS X (.Assign [.Tuple [.Name x px, .Name y py, .Name z pz] kt pt] (.Tuple [a, b, e] k2 pt2) pos) (TSv C (sPar3 i j l (fun s c => (ma s c).bind fun r s c => .ok (r.1, false) s c) (fun s c => (mb s c).bind fun r s c => .ok (r.1, false) s c) mc)) :=
  PSimp (ps_par3 hc hN hi hj hl hij hil hjl hx hy hz (pa_cons ha (pa_cons hb (pa_cons he pa_nil (star_no nc)) (star_no nb)) (star_no na)) hw hs) fun D σ H ⟨W, s, c, R, k⟩ => by
    refine ⟨W, s, c, R, ?_⟩
    have k1 : KontS C W ((ma s c).toF fun r s c => (mb s c).toF fun r' s c => (mc s c).toF fun r'' s c => .nx (((s.set i (.fz r.1)).set j (.fz r'.1)).set l (svOf r'')) c) D := by
      have k0 : KontS C W (((ma s c).bind fun r s c => .ok (r.1, false) s c).toF fun r s c => ((mb s c).bind fun r s c => .ok (r.1, false) s c).toF fun r' s c => (mc s c).toF fun r'' s c => .nx (((s.set i (svOf r)).set j (svOf r')).set l (svOf r'')) c) D := k
      cases e1 : ma s c with
      | bad => rw [e1] at k0; exact k0
      | ex x s' c' => rw [e1] at k0; exact k0
      | ok r s' c' =>
        rw [e1] at k0
        have k0' : KontS C W (((mb s' c').bind fun r s c => .ok (r.1, false) s c).toF fun r' s c => (mc s c).toF fun r'' s c => .nx (((s.set i (.fz r.1)).set j (svOf r')).set l (svOf r'')) c) D := k0
        show KontS C W ((mb s' c').toF fun r' s c => (mc s c).toF fun r'' s c => .nx (((s.set i (.fz r.1)).set j (.fz r'.1)).set l (svOf r'')) c) D
        cases e2 : mb s' c' with
        | bad => rw [e2] at k0'; exact k0'
        | ex x s' c' => rw [e2] at k0'; exact k0'
        | ok r s' c' =>
          rw [e2] at k0'
          exact k0'
    refine (Kont.bindS k1).thn fun v H1 ⟨W1, s1, c1, d, b, l1, R1, q1, k2⟩ => ?_
    obtain ⟨W2, l2, R2, p2⟩ := R1.freezeR q1
    refine ⟨W2, s1, c1, R2, (Kont.bindS (KontS.up l2 k2)).thn fun v' H2 ⟨W3, s3, c3, d3, b3, l3, R3, q3, k3⟩ => ?_⟩
    obtain ⟨W4, l4, R4, p4⟩ := R3.freezeR q3
    refine ⟨W4, s3, c3, R4, (Kont.bindS (KontS.up l4 k3)).thn fun v'' H3 ⟨W5, s5, c5, d5, b5, l5, R5, q5, k5⟩ => ?_⟩
    have pa := p2.mono (l3.trans (l4.trans l5))
    have pb := p4.mono l5
    have R6 := R5.setF pa i
    have R7 := R6.setF pb j
    have q7 : Rr C W5 ((s5.set i (.fz d)).set j (.fz d3)) ((σ.set i (some v)).set j (some v')) H3 d5 b5 v'' := (q5.set (d' := d) (b' := false) (i := i) (v' := v) R5 fun _ z => by cases z).set (d' := d3) (b' := false) R6 fun _ z => by cases z
    exact ⟨v, v', v'', rfl, k5 W5 _ H3 (.refl W5) (R7.setR q7 l)⟩
end

/-! ### x[i] = v -/
def kPut (i : Nat) (r : D) (o : Option D) : MS := fun s c => match plGet s c i, o with
  | some (.lst xs), some (.int k) => (match ixN xs.length k with
    | some j => .nx (plS s i (.lst (xs.set j r))) (plC s c i (.lst (xs.set j r)))
    | none => .bad)
  | _, _ => .bad
def sPut (i : Nat) (mv : ME) (mi : MO) : MS := fun s c => (mv s c).toF fun r s c => if isLst (plGet s c i) = true then (mi s c).toF fun oi s c => kPut i r.1 (oi.get s c) s c else .bad
theorem kPut_of {C : Cg} {W : Wd} {s : SL} {c : CL} {σ : St} {H : Hp} {i : Nat} {a : Addr} {r : D} {v u : V} {od : Od} {De : Ends} (R : Rel C W s c σ H) (ha : σ[i]? = some (some (.ref a))) (p : Rp C.G W r v) (q : OdR C W σ od u)
    (k : KontS C W (kPut i r (od.get s c) s c) De) : rSetL (.ref a) u v H (fun H3 => De.nx σ H3) := by
  unfold kPut at k
  cases e1 : plGet s c i with
  | none => rw [e1] at k; exact k.elim
  | some d =>
    rw [e1] at k
    cases e2 : od.get s c with
    | none => rw [e2] at k; cases d <;> exact k.elim
    | some y =>
      rw [e2] at k
      cases d <;> first | exact k.elim | skip
      cases y <;> first | exact k.elim | skip
      rename_i xs n
      have k' : KontS C W (match ixN xs.length n with
        | some j => .nx (plS s i (.lst (xs.set j r))) (plC s c i (.lst (xs.set j r)))
        | none => .bad) De := k
      cases e3 : ixN xs.length n with
      | none => rw [e3] at k'; exact k'.elim
      | some j =>
        rw [e3] at k'
        obtain ⟨b, o, g1, g2, g3, g4⟩ := R.place e1
        rw [ha] at g1
        cases g1
        obtain ⟨vs, rfl, rs⟩ := g3
        have hu := (q.read R e2).int
        subst hu
        exact ⟨a, vs, n, j, rfl, rfl, g2, by rw [← rs.length]; exact e3, k' W σ _ (.refl W) (g4 _ _ ⟨_, rfl, Rps.set p j rs⟩)⟩
theorem vs_put {X : Cx} {C : Cg} {x : Str} {i : Nat} {px ps pos : Pos} {e ei : Expr} {mv : ME} {mi : MO} (he : PE X e (TEv C mv)) (ho : PE X (.Name x px) (tVar i)) (hi : PE X ei (TOv C mi))
    (ha : ∀ v, assign (.Subscript (.Name x px) ei ps) X.env v = (do
      let ov ← holding [v] (eval (.Name x px) X.env)
      let iv ← holding [v, ov] (eval ei X.env)
      standAt ps
      holding [v, ov, iv] (setItem ov iv v)
      release [v, ov, iv] []) := by intro _; rfl)
    (hs : swapsWithSole [.Subscript (.Name x px) ei ps] e pos.line X.env = pure false := by rfl) (hw : swappedStores [.Subscript (.Name x px) ei ps] e X.env = pure none := by rfl)
    (h1 : (assignEach [.Subscript (.Name x px) ei ps] X.env).map (·.2) = [assign (.Subscript (.Name x px) ei ps) X.env] := by rfl) :
    PS X (.Assign [.Subscript (.Name x px) ei ps] e pos) (TSv C (sPut i mv mi)) := PSimp (ps_asg he (pg_sub ho hi set_list ha) hs hw h1) fun D σ H ⟨W, s, c, R, k⟩ =>
  ⟨W, s, c, R, (Kont.bindS k).thn fun v H1 ⟨W1, s1, c1, d, b, l, R1, q1, k1⟩ => by
    obtain ⟨W2, l2, R2, p2⟩ := R1.freezeR q1
    by_cases g : isLst (plGet s1 c1 i) = true
    · have k2 : KontS C W1 ((mi s1 c1).toF fun oi s c => kPut i d (oi.get s c) s c) D := by
        have k1' : KontS C W1 (if isLst (plGet s1 c1 i) = true then (mi s1 c1).toF fun oi s c => kPut i d (oi.get s c) s c else .bad) D := k1
        rw [if_pos g] at k1'
        exact k1'
      obtain ⟨a, e1, _⟩ := isLst_ty (C := C) R2 g
      exact ⟨.ref a, e1, W2, s1, c1, R2, (KontO.bindS (KontS.up l2 k2)).thn fun u H3 ⟨W3, s3, c3, od, l3, R3, q3, k3⟩ => kPut_of R3 e1 (p2.mono l3) q3 k3⟩
    · have k1' : KontS C W1 (if isLst (plGet s1 c1 i) = true then (mi s1 c1).toF fun oi s c => kPut i d (oi.get s c) s c else .bad) D := k1
      rw [if_neg g] at k1'
      exact k1'.elim⟩
end EV

set_option Elab.async false
set_option linter.all false
set_option maxRecDepth 100000
/-! EV 10: while, what a loop walks, for, comprehensions -/
namespace EV
open PySem PySem.Spec L2
open PyProof.Rows hiding St

/-! ### while -/
/-- behind a loop's body -/
def Fl.lp (o : Fl) (k : MS) : Fl := match o with
  | .nx s c => k s c
  | .ct s c => k s c
  | .bk s c => .nx s c
  | o => o
theorem Fl.lp_of {C : Cg} {W : Wd} {o : Fl} {k : MS} {De : Ends} {N : St → Hp → Prop} (h : KontS C W (o.lp k) De) (hN : ∀ W' s c σ H, Rel C W' s c σ H → KontS C W' (k s c) De → N σ H) :
    KontS C W o { De with nx := N, ct := N, bk := De.nx } := by
  cases o with
  | nx s c => exact fun W' σ H l R => hN W' s c σ H R (KontS.up l h)
  | ct s c => exact fun W' σ H l R => hN W' s c σ H R (KontS.up l h)
  | bk s c => exact h
  | rt d b s c => exact h
  | ex x s c => exact h
  | bad => exact h
def wLoop (t : MT) (b : MS) : Nat → MS
  | 0 => fun _ _ => .bad
  | n + 1 => fun s c => (t s c).toF fun k s c => if k = true then (b s c).lp (wLoop t b n) else .nx s c
/-- f: how many turns at most, by the state ahead -/
def sWhile (f : SL → CL → Nat) (t : MT) (b : MS) : MS := fun s c => wLoop t b (f s c) s c
theorem vs_while {X : Cx} {C : Cg} {cnd : Expr} {body : List Stmt} {pos : Pos} {t : MT} {b : MS} (f : SL → CL → Nat) (hp : PassesOwn (model X.prog X.w) X.A X.env X.xe) (hc : PT X cnd (TTv C t)) (hb : PSs X body (TSv C b)) :
    PS X (.While cnd body [] pos) (TSv C (sWhile f t b)) := PSimp (ps_while hp hc hb) fun D σ H ⟨W, s, c, R, k⟩ => by
  refine ⟨fun m σ H => ∃ W s c, Rel C W s c σ H ∧ KontS C W (wLoop t b m s c) D, ⟨f s c, W, s, c, R, k⟩, ?_⟩
  rintro m σ H ⟨W, s, c, R, k⟩
  cases m with
  | zero => exact k.elim
  | succ n =>
    refine ⟨W, s, c, R, (KontT.bindS k).thn fun k0 H1 ⟨W1, s1, c1, l, R1, k1⟩ => ?_⟩
    cases k0 with
    | false => exact k1 W1 σ H1 (.refl W1) R1
    | true =>
      exact ⟨fun σ H => ∃ W s c, Rel C W s c σ H ∧ KontS C W (wLoop t b n s c) D, fun σ' H' h => ⟨n, Nat.lt_succ_self n, h⟩, W1, s1, c1, R1, Fl.lp_of k1 fun W' s c σ H R k => ⟨W', s, c, R, k⟩⟩

/-! ### what a loop walks: at turn i, by the state: nothing known, the end, an item -/
abbrev Lk := Nat → SL → CL → Option (Option D)
/-- the most turns, the walk -/
abbrev MI := SL → CL → Ot (Nat × Lk)
def LkR (G : Gp) (W : Wd) (lk : Lk) (J : It) : Prop := ∀ (C : Cg) W' s c σ H i, C.G = G → W.le W' → Rel C W' s c σ H →
  (lk i s c = some none → J.stop i H) ∧ ∀ d, lk i s c = some (some d) → J.go i H ∧ ∀ x H', J.yld i H x H' → ∃ W2, W'.le W2 ∧ Rel C W2 s c σ H' ∧ Rp C.G W2 d x
def KontI (C : Cg) (σ : St) (W : Wd) (o : Ot (Nat × Lk)) (R : It → Hp → Prop) : Prop := match o with
  | .ok lk s c => ∀ W' J H', W.le W' → Rel C W' s c σ H' → LkR C.G W' lk.2 J → R J H'
  | .ex x s c => ∀ W' H', W.le W' → Rel C W' s c σ H' → C.KX x W' s c H'
  | .bad => False
def TIv (C : Cg) (m : MI) : TI := fun σ H R => ∃ W s c, Rel C W s c σ H ∧ KontI C σ W (m s c) R
theorem PIimp {X : Cx} {tg e : Expr} {t t' : TI} (h : PI X tg e t) (i : ∀ σ H Q, t' σ H Q → t σ H Q) : PI X tg e t' := ⟨fun pins s σ H Q I q => h.run pins s σ H Q I (i σ H Q q)⟩
def lkL (ds : List D) : Lk := fun i _ _ => some ds[i]?
/-- the list with that number, as it stands -/
def lkC (k : Nat) : Lk := fun i _ c => match c[k]? with
  | some (.lst ds) => some ds[i]?
  | _ => none
def kIt (od : Od) : MI := fun s c => match od with
  | .dv (.lst ds) => .ok (ds.length + 1, lkL ds) s c
  | .dv (.rol ds) => .ok (ds.length + 1, lkL ds) s c
  | .dv (.cell k) => (match c[k]? with
    | some (.lst ds) => .ok (ds.length + 1, lkC k) s c
    | _ => .bad)
  | _ => .bad
def kItT (od : Od) : MI := fun s c => match od with
  | .dv (.tup ds) => .ok (ds.length + 1, lkL ds) s c
  | _ => .bad
def iLst (m : MO) : MI := fun s c => (m s c).bind kIt
def iTpl (m : MO) : MI := fun s c => (m s c).bind kItT
section
variable {C : Cg} {W : Wd} {σ : St}
theorem KontO.bindI {o : Ot Od} {k : Od → MI} {Q : It → Hp → Prop} (h : KontI C σ W (o.bind k) Q) :
    KontO C σ W o fun v H1 => ∃ W1 s1 c1 od, W.le W1 ∧ Rel C W1 s1 c1 σ H1 ∧ OdR C W1 σ od v ∧ KontI C σ W1 (k od s1 c1) Q := by
  cases o with
  | ok a s' c' =>
    refine fun W1 v H1 l r q => ⟨W1, s', c', a, l, r, q, ?_⟩
    have h' : KontI C σ W (k a s' c') Q := h
    cases e : k a s' c' with
    | ok lk s c => rw [e] at h'; exact fun W2 J H' l2 => h' W2 J H' (l.trans l2)
    | ex x s c => rw [e] at h'; exact fun W2 H' l2 => h' W2 H' (l.trans l2)
    | bad => rw [e] at h'; exact h'
  | ex x s' c' => exact h
  | bad => exact h
theorem KontI.up {W' : Wd} {o : Ot (Nat × Lk)} {Q : It → Hp → Prop} (l : W.le W') (h : KontI C σ W o Q) : KontI C σ W' o Q := by
  cases o with
  | ok lk s c => exact fun W2 J H' l2 => h W2 J H' (l.trans l2)
  | ex x s c => exact fun W2 H' l2 => h W2 H' (l.trans l2)
  | bad => exact h
theorem KontA.bindI {o : Ot (List Od)} {k : List Od → MI} {Q : It → Hp → Prop} (h : KontI C σ W (o.bind k) Q) :
    KontA C σ W o fun v H1 => ∃ W1 s1 c1 od, W.le W1 ∧ Rel C W1 s1 c1 σ H1 ∧ OdRs C W1 σ od v ∧ KontI C σ W1 (k od s1 c1) Q := by
  cases o with
  | ok a s' c' => exact fun W1 v H1 l r q => ⟨W1, s', c', a, l, r, q, KontI.up l h⟩
  | ex x s' c' => exact h
  | bad => exact h
end
/-- a frozen list, a list of the written part or the script, a frozen tuple: walked -/
theorem Rps.at_ {G : Gp} {W : Wd} {xs : List D} {vs : List V} (r : Rps G W xs vs) {i : Nat} {x : D} (h : xs[i]? = some x) : ∃ v, vs[i]? = some v ∧ Rp G W x v :=
  Rps.get (C := ⟨G, fun _ => none, fun _ => none, [], fun _ _ _ _ _ => True⟩) r h
theorem Rps.len {G : Gp} {W : Wd} {xs : List D} {vs : List V} (r : Rps G W xs vs) : xs.length = vs.length :=
  Rps.length (C := ⟨G, fun _ => none, fun _ => none, [], fun _ _ _ _ _ => True⟩) r
theorem lkL_stop {ds : List D} {i : Nat} {s : SL} {c : CL} (h : lkL ds i s c = some none) : ds.length ≤ i := by
  have h' : some ds[i]? = some none := h
  exact List.getElem?_eq_none_iff.mp (Option.some.inj h')
theorem lkL_item {ds : List D} {i : Nat} {d : D} {s : SL} {c : CL} (h : lkL ds i s c = some (some d)) : ds[i]? = some d := Option.some.inj h
theorem lk_list {G : Gp} {W : Wd} {ds : List D} {a : Addr} {vs : List V} (h : SqL G.K W.F a vs) (r : Rps G W ds vs) : LkR G W (lkL ds) (Itl G.K a) := by
  intro C W' s c σ H i e l R
  have hq : SqL G.K H a vs := SqL.mono (SqL.mono h l.F) R.sub
  refine ⟨fun z => ⟨vs, hq, by rw [← r.len]; exact lkL_stop z⟩, fun d z => ?_⟩
  obtain ⟨v, e1, p⟩ := r.at_ (lkL_item z)
  refine ⟨⟨vs, v, hq, e1⟩, fun x H' ⟨eH, y⟩ => ?_⟩
  subst eH
  have := y vs hq
  rw [e1] at this
  cases this
  exact ⟨W', .refl W', R, e ▸ p.mono l⟩
theorem lk_tup {G : Gp} {W : Wd} {ds : List D} {a : Addr} {vs : List V} (h : SqT G.K W.F a vs) (r : Rps G W ds vs) : LkR G W (lkL ds) (Itt G.K a) := by
  intro C W' s c σ H i e l R
  have hq : SqT G.K H a vs := SqT.mono (SqT.mono h l.F) R.sub
  refine ⟨fun z => ⟨vs, hq, by rw [← r.len]; exact lkL_stop z⟩, fun d z => ?_⟩
  obtain ⟨v, e1, p⟩ := r.at_ (lkL_item z)
  refine ⟨⟨vs, v, hq, e1⟩, fun x H' ⟨eH, y⟩ => ?_⟩
  subst eH
  have := y vs hq
  rw [e1] at this
  cases this
  exact ⟨W', .refl W', R, e ▸ p.mono l⟩
theorem lk_cell {G : Gp} {W : Wd} {k : Nat} {a : Addr} (h : W.R[k]? = some a) : LkR G W (lkC k) (Itl G.K a) := by
  intro C W' s c σ H i e l R
  have hR := l.R k a h
  have look : ∀ {z}, lkC k i s c = some z → ∃ ds vs, c[k]? = some (.lst ds) ∧ z = ds[i]? ∧ H a = some (.lst vs) ∧ Rps C.G W' ds vs := fun {z} q => by
    unfold lkC at q
    cases e1 : c[k]? with
    | none => rw [e1] at q; cases q
    | some d =>
      rw [e1] at q
      cases d <;> first | (cases q; done) | skip
      cases q
      obtain ⟨_, o, e2, vs, rfl, r⟩ := R.cel k _ a e1 hR
      exact ⟨_, vs, rfl, rfl, e2, r⟩
  refine ⟨fun z => ?_, fun d z => ?_⟩
  · obtain ⟨ds, vs, e1, e2, e3, r⟩ := look z
    exact ⟨vs, SqL.of e3, by rw [← r.len]; exact List.getElem?_eq_none_iff.mp e2.symm⟩
  · obtain ⟨ds, vs, e1, e2, e3, r⟩ := look z
    obtain ⟨v, e4, p⟩ := r.at_ e2.symm
    refine ⟨⟨vs, v, SqL.of e3, e4⟩, fun x H' ⟨eH, y⟩ => ?_⟩
    subst eH
    have := y vs (SqL.of e3)
    rw [e4] at this
    cases this
    exact ⟨W', .refl W', R, p⟩

/-- a text, walked -/
def chrs (x : Str) : List D := x.cps.toList.map fun k => .str ⟨#[k]⟩
theorem lk_str {G : Gp} {W : Wd} {x : Str} : LkR G W (lkL (chrs x)) (Its x) := by
  intro C W' s c σ H i e l R
  have hl : (chrs x).length = x.cps.size := by unfold chrs; simp
  refine ⟨fun z => by
    have := lkL_stop z
    rw [hl] at this
    exact this, fun d z => ?_⟩
  have z' := lkL_item z
  have hi : i < x.cps.size := by rw [← hl]; exact (List.getElem?_eq_some_iff.mp z').1
  refine ⟨hi, fun v H' ⟨eH, k, e1, e2⟩ => ?_⟩
  subst eH e2
  have e3 : (chrs x)[i]? = some (.str ⟨#[k]⟩) := by
    unfold chrs
    rw [List.getElem?_map, Array.getElem?_toList, e1]
    rfl
  rw [e3] at z'
  cases z'
  exact ⟨W', .refl W', R, .str _⟩
def kItA (od : Od) : MI := fun s c => match od with
  | .dv (.tup ds) => .ok (ds.length + 1, lkL ds) s c
  | .dv (.lst ds) => .ok (ds.length + 1, lkL ds) s c
  | .dv (.rol ds) => .ok (ds.length + 1, lkL ds) s c
  | .dv (.str x) => .ok ((chrs x).length + 1, lkL (chrs x)) s c
  | .dv (.cell k) => (match c[k]? with
    | some (.lst ds) => .ok (ds.length + 1, lkC k) s c
    | _ => .bad)
  | _ => .bad
def iAny (m : MO) : MI := fun s c => (m s c).bind kItA
/-- what an iterated expression gives: the walk by the value -/
theorem PI.or {X : Cx} {tg e : Expr} {t u : TI} (h : PI X tg e t) (k : PI X tg e u) : PI X tg e fun σ H R => t σ H R ∨ u σ H R :=
  ⟨fun pins s σ H R I q => q.elim (h.run pins s σ H R I) (k.run pins s σ H R I)⟩
section
variable {X : Cx} {C : Cg} {tg e : Expr} {m : MO}
theorem vi_any (hK : X.K = C.G.K) (he : PE X e (TOv C m)) : PI X tg e (TIv C (iAny m)) := PIimp (PI.or (PI.or (pi_list he) (pi_tup he)) (pi_str he)) fun σ H Q ⟨W, s, c, R, k⟩ => by
  have k' : KontI C σ W ((m s c).bind kItA) Q := k
  rw [hK]
  cases em : m s c with
  | bad => rw [em] at k'; exact k'.elim
  | ex x s' c' =>
    rw [em] at k'
    exact .inl (.inl ⟨W, s, c, R, by rw [em]; exact k'⟩)
  | ok od s' c' =>
    rw [em] at k'
    cases od with
    | bw i => exact k'.elim
    | dv d =>
      cases d <;> first | exact k'.elim | skip
      · refine .inr ⟨W, s, c, R, ?_⟩
        rw [em]
        intro W1 v H1 l R1 q1
        have q : Rp C.G W1 _ v := q1
        cases q
        exact ⟨_, rfl, k' W1 _ H1 l R1 lk_str⟩
      · refine .inl (.inl ⟨W, s, c, R, ?_⟩)
        rw [em]
        intro W1 v H1 l R1 q1
        have q : Rp C.G W1 _ v := q1
        rename_i kk
        cases q with
        | @cell _ a hc =>
          have k1' : KontI C σ W (match c'[kk]? with
            | some (.lst ds) => .ok (ds.length + 1, lkC kk) s' c'
            | _ => .bad) Q := k'
          cases e1 : c'[kk]? with
          | none => rw [e1] at k1'; exact k1'.elim
          | some d =>
            rw [e1] at k1'
            cases d <;> first | exact k1'.elim | skip
            obtain ⟨_, o, e2, vs, rfl, r⟩ := R1.cel kk _ a e1 hc
            exact ⟨a, rfl, ⟨vs, SqL.of e2⟩, k1' W1 _ H1 l R1 (lk_cell hc)⟩
      · refine .inl (.inl ⟨W, s, c, R, ?_⟩)
        rw [em]
        intro W1 v H1 l R1 q1
        have q : Rp C.G W1 _ v := q1
        cases q with
        | rol h r => exact ⟨_, rfl, ⟨_, SqL.mono h R1.sub⟩, k' W1 _ H1 l R1 (lk_list h r)⟩
      · refine .inl (.inl ⟨W, s, c, R, ?_⟩)
        rw [em]
        intro W1 v H1 l R1 q1
        have q : Rp C.G W1 _ v := q1
        cases q with
        | lst h r => exact ⟨_, rfl, ⟨_, SqL.of (R1.sub _ _ h)⟩, k' W1 _ H1 l R1 (lk_list (SqL.of h) r)⟩
      · refine .inl (.inr ⟨W, s, c, R, ?_⟩)
        rw [em]
        intro W1 v H1 l R1 q1
        have q : Rp C.G W1 _ v := q1
        cases q with
        | tup h r => exact ⟨_, rfl, ⟨_, SqT.mono h R1.sub⟩, k' W1 _ H1 l R1 (lk_tup h r)⟩
end
/-- range -/
def rngD (lo : Int) (n : Nat) : List D := (List.range n).map fun (i : Nat) => .int (lo + i)
theorem rngD_len {lo : Int} {n : Nat} : (rngD lo n).length = n := by unfold rngD; simp
theorem rngD_get {lo : Int} {n i : Nat} (h : i < n) : (rngD lo n)[i]? = some (.int (lo + i)) := by
  unfold rngD
  rw [List.getElem?_map, List.getElem?_range h]
  rfl
theorem lk_rng {G : Gp} {W : Wd} {lo : Int} {n : Nat} : LkR G W (lkL (rngD lo n)) (Itr lo n) := by
  intro C W' s c σ H i e l R
  refine ⟨fun z => by
    have := lkL_stop z
    rw [rngD_len] at this
    exact this, fun d z => ?_⟩
  have z' := lkL_item z
  have hi : i < n := by have := (List.getElem?_eq_some_iff.mp z').1; rw [rngD_len] at this; exact this
  rw [rngD_get hi] at z'
  cases z'
  refine ⟨hi, fun v H' ⟨eH, e2⟩ => ?_⟩
  subst eH e2
  exact ⟨W', .refl W', R, .int _⟩
def kRng1 : Option (List D) → MI := fun ds s c => match ds with
  | some [.int j] => if -(2 ^ 62) ≤ j ∧ j < 2 ^ 62 then .ok ((rngD 0 j.toNat).length + 1, lkL (rngD 0 j.toNat)) s c else .bad
  | _ => .bad
def kRng2 : Option (List D) → MI := fun ds s c => match ds with
  | some [.int i, .int j] => if -(2 ^ 62) ≤ i ∧ i < 2 ^ 62 ∧ -(2 ^ 62) ≤ j ∧ j < 2 ^ 62 then .ok ((rngD i (j - i).toNat).length + 1, lkL (rngD i (j - i).toNat)) s c else .bad
  | _ => .bad
def iRng1 (m : MA) : MI := fun s c => (m s c).bind fun ods s c => kRng1 (getAll s c ods) s c
def iRng2 (m : MA) : MI := fun s c => (m s c).bind fun ods s c => kRng2 (getAll s c ods) s c
theorem ifI {C : Cg} {σ : St} {W : Wd} {p : Prop} [Decidable p] {o : Ot (Nat × Lk)} {Q : It → Hp → Prop} (h : KontI C σ W (if p then o else .bad) Q) : p ∧ KontI C σ W o Q := by
  by_cases z : p
  · rw [if_pos z] at h; exact ⟨z, h⟩
  · rw [if_neg z] at h; exact h.elim
section
variable {X : Cx} {C : Cg} {tg a b : Expr} {m : MA} {p pos : Pos}
theorem vi_rng1 (hg : Gl X "range") (hm : X.mg "range" = none) (ha : PA X [a] (TAv C m)) (hs : noStar a = true) : PI X tg (.Call (.Name "range" p) [a] [] pos) (TIv C (iRng1 m)) := PIimp (pi_range1 hg hm ha (by rw [star_no hs]; rfl)) fun σ H Q ⟨W, s, c, R, k⟩ =>
  ⟨W, s, c, R, (KontA.bindI k).thn fun vs H1 ⟨W1, s1, c1, ods, l, R1, q1, k1⟩ => by
    cases e : getAll s1 c1 ods with
    | none => rw [e] at k1; exact k1.elim
    | some ds =>
      rw [e] at k1
      have rb := q1.read R1 e
      rcases ds with _ | ⟨x, _ | ⟨y, t⟩⟩
      · exact k1.elim
      · cases x <;> first | exact k1.elim | skip
        obtain ⟨v, rfl, r⟩ := rbs1 rb
        obtain rfl := r.int
        obtain ⟨⟨h1, h2⟩, k2⟩ := ifI k1
        exact ⟨_, rfl, h1, h2, k2 W1 _ H1 (.refl W1) R1 lk_rng⟩
      · cases x <;> exact k1.elim⟩
theorem vi_rng2 (hg : Gl X "range") (hm : X.mg "range" = none) (ha : PA X [a, b] (TAv C m)) (hs : noStar a = true) (hs2 : noStar b = true) : PI X tg (.Call (.Name "range" p) [a, b] [] pos) (TIv C (iRng2 m)) :=
  PIimp (pi_range2 hg hm ha (by rw [star_no hs, star_no hs2]; rfl) (by rw [star_no hs2]; rfl)) fun σ H Q ⟨W, s, c, R, k⟩ =>
  ⟨W, s, c, R, (KontA.bindI k).thn fun vs H1 ⟨W1, s1, c1, ods, l, R1, q1, k1⟩ => by
    cases e : getAll s1 c1 ods with
    | none => rw [e] at k1; exact k1.elim
    | some ds =>
      rw [e] at k1
      have rb := q1.read R1 e
      rcases ds with _ | ⟨x, _ | ⟨y, _ | ⟨z, t⟩⟩⟩
      · exact k1.elim
      · cases x <;> exact k1.elim
      · cases x <;> first | exact k1.elim | skip
        cases y <;> first | exact k1.elim | skip
        obtain ⟨v, u, rfl, r, r'⟩ := rbs2 rb
        obtain rfl := r.int
        obtain rfl := r'.int
        obtain ⟨h1, k2⟩ := ifI k1
        exact ⟨_, _, rfl, h1, k2 W1 _ H1 (.refl W1) R1 lk_rng⟩
      · cases x <;> first | exact k1.elim | skip
        cases y <;> exact k1.elim⟩
end
/-- enumerate, zip -/
def enumD (ds : List D) : List D := ds.mapIdx fun (i : Nat) d => .tup [.int i, d]
def zipD (xs ys : List D) : List D := List.zipWith (fun x y => .tup [x, y]) xs ys
theorem newPair {C : Cg} {W : Wd} {s : SL} {c : CL} {σ : St} {H : Hp} {T : Addr} {x y : D} {v u : V} (R : Rel C W s c σ H) (hT : H T = none) (px : Rp C.G W x v) (py : Rp C.G W y u) :
    ∃ W2, W.le W2 ∧ Rel C W2 s c σ (upd H T (.tup [v, u])) ∧ Rp C.G W2 (.tup [x, y]) (.ref T) := by
  obtain ⟨le, R2⟩ := R.newF (o := .tup [v, u]) hT
  exact ⟨_, le, R2, .tup (SqT.of upd_same) (.cons (px.mono le) (.cons (py.mono le) .nil))⟩
theorem lk_enum {G : Gp} {W : Wd} {ds : List D} {a : Addr} {vs : List V} (h : SqL G.K W.F a vs) (r : Rps G W ds vs) : LkR G W (lkL (enumD ds)) (Ite G.K a) := by
  intro C W' s c σ H i e l R
  have hq : SqL G.K H a vs := SqL.mono (SqL.mono h l.F) R.sub
  have hlen : (enumD ds).length = ds.length := by unfold enumD; simp
  refine ⟨fun z => ⟨vs, hq, by rw [← r.len, ← hlen]; exact lkL_stop z⟩, fun d z => ?_⟩
  have z' : (ds.mapIdx fun (i : Nat) d => D.tup [.int i, d])[i]? = some d := lkL_item z
  rw [List.getElem?_mapIdx] at z'
  cases e0 : ds[i]? with
  | none => rw [e0] at z'; cases z'
  | some y =>
    rw [e0] at z'
    cases z'
    obtain ⟨v, e1, p⟩ := r.at_ e0
    refine ⟨⟨vs, v, hq, e1⟩, fun x H' ⟨T, x0, e2, hT, eH, y⟩ => ?_⟩
    subst eH e2
    have := y vs hq
    rw [e1] at this
    cases this
    exact newPair R hT (.int _) (e ▸ p.mono l)
theorem lk_zip {G : Gp} {W : Wd} {ds es : List D} {a b : Addr} {vs us : List V} (h : SqL G.K W.F a vs) (r : Rps G W ds vs) (h' : SqL G.K W.F b us) (r' : Rps G W es us) : LkR G W (lkL (zipD ds es)) (Itz G.K a b) := by
  intro C W' s c σ H i e l R
  have hq : SqL G.K H a vs := SqL.mono (SqL.mono h l.F) R.sub
  have hq' : SqL G.K H b us := SqL.mono (SqL.mono h' l.F) R.sub
  refine ⟨fun z => ⟨vs, us, hq, hq', ?_⟩, fun d z => ?_⟩
  · have := lkL_stop z
    unfold zipD at this
    rw [List.length_zipWith] at this
    rw [← r.len, ← r'.len]
    omega
  have z' : (List.zipWith (fun x y => D.tup [x, y]) ds es)[i]? = some d := lkL_item z
  rw [List.getElem?_zipWith] at z'
  cases e0 : ds[i]? with
  | none => rw [e0] at z'; cases z'
  | some y =>
    cases e0' : es[i]? with
    | none => rw [e0, e0'] at z'; cases z'
    | some y' =>
      rw [e0, e0'] at z'
      cases z'
      obtain ⟨v, e1, p⟩ := r.at_ e0
      obtain ⟨v', e1', p'⟩ := r'.at_ e0'
      refine ⟨⟨vs, us, v, v', hq, hq', e1, e1'⟩, fun x H' ⟨T, x0, y0, e2, hT, eH, q1, q2⟩ => ?_⟩
      subst eH e2
      have t1 := q1 vs hq
      rw [e1] at t1
      cases t1
      have t2 := q2 us hq'
      rw [e1'] at t2
      cases t2
      exact newPair R hT (e ▸ p.mono l) (e ▸ p'.mono l)
theorem lk_zipT {G : Gp} {W : Wd} {ds es : List D} {a b : Addr} {vs us : List V} (h : SqT G.K W.F a vs) (r : Rps G W ds vs) (h' : SqT G.K W.F b us) (r' : Rps G W es us) : LkR G W (lkL (zipD ds es)) (RZ.ItzT G.K a b) := by
  intro C W' s c σ H i e l R
  have hq : SqT G.K H a vs := SqT.mono (SqT.mono h l.F) R.sub
  have hq' : SqT G.K H b us := SqT.mono (SqT.mono h' l.F) R.sub
  refine ⟨fun z => ⟨vs, us, hq, hq', ?_⟩, fun d z => ?_⟩
  · have := lkL_stop z
    unfold zipD at this
    rw [List.length_zipWith] at this
    rw [← r.len, ← r'.len]
    omega
  have z' : (List.zipWith (fun x y => D.tup [x, y]) ds es)[i]? = some d := lkL_item z
  rw [List.getElem?_zipWith] at z'
  cases e0 : ds[i]? with
  | none => rw [e0] at z'; cases z'
  | some y =>
    cases e0' : es[i]? with
    | none => rw [e0, e0'] at z'; cases z'
    | some y' =>
      rw [e0, e0'] at z'
      cases z'
      obtain ⟨v, e1, p⟩ := r.at_ e0
      obtain ⟨v', e1', p'⟩ := r'.at_ e0'
      refine ⟨⟨vs, us, v, v', hq, hq', e1, e1'⟩, fun x H' ⟨T, x0, y0, e2, hT, eH, q1, q2⟩ => ?_⟩
      subst eH e2
      have t1 := q1 vs hq
      rw [e1] at t1
      cases t1
      have t2 := q2 us hq'
      rw [e1'] at t2
      cases t2
      exact newPair R hT (e ▸ p.mono l) (e ▸ p'.mono l)
/-- a frozen list's items -/
def lstOf : D → Option (List D)
  | .lst ds => some ds
  | .rol ds => some ds
  | _ => none
theorem lstOf_of {G : Gp} {W : Wd} {d : D} {v : V} {ds : List D} (p : Rp G W d v) (h : lstOf d = some ds) : ∃ a vs, v = .ref a ∧ SqL G.K W.F a vs ∧ Rps G W ds vs := by
  cases d <;> first | (cases h; done) | skip
  · cases h
    cases p with
    | rol h r => exact ⟨_, _, rfl, h, r⟩
  · cases h
    cases p with
    | lst h r => exact ⟨_, _, rfl, SqL.of h, r⟩
def kEnum : Option (List D) → MI := fun ds s c => match ds with
  | some [d] => (match lstOf d with
    | some xs => .ok ((enumD xs).length + 1, lkL (enumD xs)) s c
    | none => .bad)
  | _ => .bad
def iEnm (m : MA) : MI := fun s c => (m s c).bind fun ods s c => kEnum (valsOf ods) s c
def kZip : Option (List D) → MI := fun ds s c => match ds with
  | some [.tup xs, .tup ys] => .ok ((zipD xs ys).length + 1, lkL (zipD xs ys)) s c
  | some [d, e] => (match lstOf d, lstOf e with
    | some xs, some ys => .ok ((zipD xs ys).length + 1, lkL (zipD xs ys)) s c
    | _, _ => .bad)
  | _ => .bad
def iZp (m : MA) : MI := fun s c => (m s c).bind fun ods s c => kZip (valsOf ods) s c
section
variable {X : Cx} {C : Cg} {a b : Expr} {m : MA} {p pos tpos : Pos} {elts : List Expr} {kk : Nat}
theorem vi_enum (hK : X.K = C.G.K) (hg : Gl X "enumerate") (hm : X.mg "enumerate" = none) (ha : PA X [a] (TAv C m)) (hs : noStar a = true) : PI X (.Tuple elts kk tpos) (.Call (.Name "enumerate" p) [a] [] pos) (TIv C (iEnm m)) :=
  PIimp (pi_enum hg hm ha (by rw [star_no hs]; rfl)) fun σ H Q ⟨W, s, c, R, k⟩ =>
  ⟨W, s, c, R, (KontA.bindI k).thn fun vs H1 ⟨W1, s1, c1, ods, l, R1, q1, k1⟩ => by
    rw [hK]
    cases e : valsOf ods with
    | none => rw [e] at k1; exact k1.elim
    | some ds =>
      rw [e] at k1
      have rs := q1.vals e
      rcases ds with _ | ⟨x, _ | ⟨y, t⟩⟩
      · exact k1.elim
      · obtain ⟨v, rfl, px⟩ := rps1 rs
        have k1' : KontI C σ W1 (match lstOf x with
          | some xs => .ok ((enumD xs).length + 1, lkL (enumD xs)) s1 c1
          | none => .bad) Q := k1
        cases e2 : lstOf x with
        | none => rw [e2] at k1'; exact k1'.elim
        | some xs =>
          rw [e2] at k1'
          obtain ⟨a, us, rfl, h, r⟩ := lstOf_of px e2
          exact ⟨a, us, rfl, SqL.mono h R1.sub, k1' W1 _ H1 (.refl W1) R1 (lk_enum h r)⟩
      · exact k1.elim⟩
theorem vi_zip (hK : X.K = C.G.K) (hg : Gl X "zip") (hm : X.mg "zip" = none) (ha : PA X [a, b] (TAv C m)) (hs : noStar a = true) (hs2 : noStar b = true) : PI X (.Tuple elts kk tpos) (.Call (.Name "zip" p) [a, b] [] pos) (TIv C (iZp m)) :=
  PIimp (RZ.pi_zipA hg hm ha (star_no hs) (back_no (by rw [List.all_cons, hs2]; rfl))) fun σ H Q ⟨W, s, c, R, k⟩ =>
  ⟨W, s, c, R, (KontA.bindI k).thn fun vs H1 ⟨W1, s1, c1, ods, l, R1, q1, k1⟩ => by
    rw [hK]
    cases e : valsOf ods with
    | none => rw [e] at k1; exact k1.elim
    | some ds =>
      rw [e] at k1
      have rs := q1.vals e
      rcases ds with _ | ⟨x, _ | ⟨y, _ | ⟨z, t⟩⟩⟩
      · exact k1.elim
      · cases x <;> exact k1.elim
      · obtain ⟨v, u, rfl, px, py⟩ := rps2 rs
        have lists : (∀ xs, x ≠ .tup xs) → ∃ a b xs ys, [v, u] = [V.ref a, V.ref b] ∧ (SqL C.G.K H1 a xs ∧ SqL C.G.K H1 b ys ∧ Q (Itz C.G.K a b) H1 ∨ SqT C.G.K H1 a xs ∧ SqT C.G.K H1 b ys ∧ Q (RZ.ItzT C.G.K a b) H1) := fun nt => by
          have k2 : KontI C σ W1 (match lstOf x, lstOf y with
            | some xs, some ys => .ok ((zipD xs ys).length + 1, lkL (zipD xs ys)) s1 c1
            | _, _ => .bad) Q := by
            cases x <;> first | exact k1 | exact absurd rfl (nt _)
          cases e2 : lstOf x with
          | none => rw [e2] at k2; exact k2.elim
          | some xs =>
            cases e3 : lstOf y with
            | none => rw [e2, e3] at k2; exact k2.elim
            | some ys =>
              rw [e2, e3] at k2
              obtain ⟨a, us, rfl, h, r⟩ := lstOf_of px e2
              obtain ⟨b, ws, rfl, h', r'⟩ := lstOf_of py e3
              exact ⟨a, b, us, ws, rfl, .inl ⟨SqL.mono h R1.sub, SqL.mono h' R1.sub, k2 W1 _ H1 (.refl W1) R1 (lk_zip h r h' r')⟩⟩
        cases x with
        | tup xs =>
          cases y with
          | tup ys =>
            cases px with
            | tup h r =>
              cases py with
              | tup h' r' => exact ⟨_, _, _, _, rfl, .inr ⟨SqT.mono h R1.sub, SqT.mono h' R1.sub, k1 W1 _ H1 (.refl W1) R1 (lk_zipT h r h' r')⟩⟩
          | _ => exact k1.elim
        | _ => exact lists fun _ z => by cases z
      · cases x <;> first | exact k1.elim | (cases y <;> exact k1.elim)⟩
end

/-! ### for -/
def fLoop (lk : Lk) (g : MG) (b : MS) : Nat → Nat → MS
  | 0, _ => fun _ _ => .bad
  | n + 1, i => fun s c => match lk i s c with
    | none => .bad
    | some none => .nx s c
    | some (some d) => (match g d s with
      | some s => (b s c).lp (fLoop lk g b n (i + 1))
      | none => .bad)
def sFor (mi : MI) (g : MG) (b : MS) : MS := fun s c => (mi s c).toF fun l => fLoop l.2 g b l.1 0
theorem KontI.bindS {C : Cg} {W : Wd} {σ : St} {De : Ends} {o : Ot (Nat × Lk)} {k : Nat × Lk → MS} (h : KontS C W (o.toF k) De) :
    KontI C σ W o fun J H1 => ∃ W1 s1 c1 lk, W.le W1 ∧ Rel C W1 s1 c1 σ H1 ∧ LkR C.G W1 lk.2 J ∧ KontS C W1 (k lk s1 c1) De := by
  cases o with
  | ok a s' c' => exact fun W1 v H1 l r q => ⟨W1, s', c', a, l, r, q, KontS.up l h⟩
  | ex x s' c' => exact fun W1 H1 l r => h W1 σ H1 l r
  | bad => exact h
theorem KontI.thn {C : Cg} {W : Wd} {σ : St} {o : Ot (Nat × Lk)} {Q Q' : It → Hp → Prop} (h : KontI C σ W o Q) (i : ∀ v H, Q v H → Q' v H) : KontI C σ W o Q' := by
  cases o with
  | ok a s' c' => exact fun W1 v H1 l r q => i _ _ (h W1 v H1 l r q)
  | ex x s' c' => exact h
  | bad => exact h
theorem LkR.up {G : Gp} {W W' : Wd} {lk : Lk} {J : It} (h : LkR G W lk J) (l : W.le W') : LkR G W' lk J := fun C W2 s c σ H i e l2 R => h C W2 s c σ H i e (l.trans l2) R
theorem vs_for {X : Cx} {C : Cg} {tg iter : Expr} {body : List Stmt} {pos : Pos} {mi : MI} {g : MG} {b : MS} (hp : PassesOwn (model X.prog X.w) X.A X.env X.xe) (hc : X.calm = true) (hi : PI X tg iter (TIv C mi)) (hg : PG X tg (TGv C g)) (hb : PSs X body (TSv C b))
    (hs : ∀ x, foldedSetIterable iter X.env x = pure x := by intro _; rfl) : PS X (.For tg iter body [] pos) (TSv C (sFor mi g b)) := PSimp (ps_for hp hc hi hg hb hs) fun D σ H ⟨W, s, c, R, k⟩ => by
  refine ⟨W, s, c, R, (KontI.bindS k).thn fun J H1 ⟨W1, s1, c1, lk, l, R1, q1, k1⟩ => ?_⟩
  refine ⟨fun i m σ H => ∃ W s c, W1.le W ∧ Rel C W s c σ H ∧ KontS C W (fLoop lk.2 g b m i s c) D, ⟨lk.1, W1, s1, c1, .refl W1, R1, k1⟩, ?_⟩
  rintro i m σ H ⟨W2, s2, c2, l2, R2, k2⟩
  cases m with
  | zero => exact k2.elim
  | succ n =>
    obtain ⟨st, it⟩ := q1 C W2 s2 c2 σ H i rfl l2 R2
    have k3 : KontS C W2 (match lk.2 i s2 c2 with
      | none => .bad
      | some none => .nx s2 c2
      | some (some d) => (match g d s2 with
        | some s => (b s c2).lp (fLoop lk.2 g b n (i + 1))
        | none => .bad)) D := k2
    cases e : lk.2 i s2 c2 with
    | none => rw [e] at k3; exact k3.elim
    | some o =>
      cases o with
      | none =>
        rw [e] at k3
        exact .inl ⟨st e, k3 W2 σ H (.refl W2) R2⟩
      | some d =>
        rw [e] at k3
        have k4 : KontS C W2 (match g d s2 with
          | some s => (b s c2).lp (fLoop lk.2 g b n (i + 1))
          | none => .bad) D := k3
        cases eg : g d s2 with
        | none => rw [eg] at k4; exact k4.elim
        | some s3 =>
          rw [eg] at k4
          obtain ⟨go, yl⟩ := it d e
          refine .inr ⟨go, fun σ H => ∃ W s c, W1.le W ∧ Rel C W s c σ H ∧ KontS C W (fLoop lk.2 g b n (i + 1) s c) D, fun σ' H' h => ⟨n, Nat.lt_succ_self n, h⟩, fun x H' y => ?_⟩
          obtain ⟨W3, l3, R3, p3⟩ := yl x H' y
          refine ⟨W3, s2, c2, d, R3, p3, s3, eg, fun σ' R' => ?_⟩
          refine ⟨W3, s3, c2, R', ?_⟩
          have k5 : KontS C W3 ((b s3 c2).lp (fLoop lk.2 g b n (i + 1))) D := KontS.up l3 k4
          cases ob : b s3 c2 with
          | nx s c => rw [ob] at k5; exact fun W4 σ4 H4 l4 R4 => ⟨W4, s, c, l2.trans (l3.trans l4), R4, KontS.up l4 k5⟩
          | ct s c => rw [ob] at k5; exact fun W4 σ4 H4 l4 R4 => ⟨W4, s, c, l2.trans (l3.trans l4), R4, KontS.up l4 k5⟩
          | bk s c => rw [ob] at k5; exact k5
          | rt d b s c => rw [ob] at k5; exact k5
          | ex x s c => rw [ob] at k5; exact k5
          | bad => rw [ob] at k5; exact k5
end EV

set_option Elab.async false
set_option linter.all false
set_option maxRecDepth 100000
/-! EV 11: list comprehensions -/
namespace EV
open PySem PySem.Spec L2
open PyProof.Rows hiding St

theorem wipe_get {σ : St} {j : Nat} : ∀ {vs : List Nat}, (wipe σ vs)[j]? = if j ∈ vs then (σ[j]?).map (fun _ => none) else σ[j]?
  | [] => by rw [if_neg (by simp)]; rfl
  | v :: vs => by
    show ((wipe σ vs).set v none)[j]? = _
    by_cases h : v = j
    · subst h
      rw [if_pos (by simp)]
      by_cases hv : v < σ.length
      · rw [List.getElem?_set_self (by rw [wipe_length]; exact hv), List.getElem?_eq_getElem hv]
        rfl
      · rw [List.getElem?_eq_none (by rw [List.length_set, wipe_length]; omega), List.getElem?_eq_none (by omega)]
        rfl
    · rw [List.getElem?_set_ne h, wipe_get (vs := vs)]
      by_cases h2 : j ∈ vs
      · rw [if_pos h2, if_pos (List.mem_cons_of_mem _ h2)]
      · rw [if_neg h2, if_neg (by
          intro z
          rcases List.mem_cons.mp z with z | z
          · exact h z.symm
          · exact h2 z)]
theorem wipe_set {σ : St} {i : Nat} {x : Option V} {vs : List Nat} (h : i ∈ vs) : wipe (σ.set i x) vs = wipe σ vs := by
  apply List.ext_getElem?
  intro j
  rw [wipe_get, wipe_get]
  by_cases hj : j ∈ vs
  · rw [if_pos hj, if_pos hj]
    by_cases e : i = j
    · subst e
      rw [List.getElem?_set]
      by_cases hl : i < σ.length
      · rw [if_pos rfl, if_pos hl, List.getElem?_eq_getElem hl]
        rfl
      · rw [if_pos rfl, if_neg hl, List.getElem?_eq_none (by omega)]
    · rw [List.getElem?_set_ne e]
  · rw [if_neg hj, if_neg hj]
    have ne : i ≠ j := fun e => hj (by rw [← e]; exact h)
    rw [List.getElem?_set_ne ne]
theorem wipe_wipe {σ : St} {vs : List Nat} : wipe (wipe σ vs) vs = wipe σ vs := by
  apply List.ext_getElem?
  intro j
  rw [wipe_get, wipe_get]
  by_cases hj : j ∈ vs
  · rw [if_pos hj, if_pos hj]
    cases σ[j]? <;> rfl
  · rw [if_neg hj, if_neg hj]
def swipe (s : SL) : List Nat → SL
  | [] => s
  | v :: vs => (swipe s vs).set v .no
/-- the slots of the block's names as they were -/
def srest (s0 s : SL) : List Nat → SL
  | [] => s
  | v :: vs => (srest s0 s vs).set v (match s0[v]? with
    | some (.fz d) => .fz d
    | _ => .no)
section
variable {C : Cg} {W W0 : Wd} {s s0 : SL} {c c0 : CL} {σ : St} {H H0 : Hp}
theorem Rel.wipe1 (r : Rel C W s c σ H) (v : Nat) : Rel C W (s.set v .no) c (σ.set v none) H := by
  have r1 := r.setNo v
  have no : ∀ {j : Nat} {z : SV}, (s.set v .no)[j]? = some z → z ≠ .no → v ≠ j := fun {j z} h hz e => by
    subst e
    rcases set_get h with ⟨_, q⟩ | ⟨q, _⟩
    · exact hz q.symm
    · exact q rfl
  refine ⟨r.sub, r.fr, r.nw, r.clen, r.rin, r.rnw, r.cnd, r.cel, by rw [List.length_set, List.length_set]; exact r.slen, fun j d h => ?_, fun j d h => ?_, fun j k d e a h1 h2 h3 h4 => ?_⟩
  · rw [List.getElem?_set_ne (no h (fun z => nomatch z))]
    exact r1.sfz j d h
  · rw [List.getElem?_set_ne (no h (fun z => nomatch z))]
    exact r1.sow j d h
  · rw [List.getElem?_set_ne (no h1 (fun z => nomatch z))] at h3
    rw [List.getElem?_set_ne (no h2 (fun z => nomatch z))] at h4
    exact r1.dis j k d e a h1 h2 h3 h4
theorem Rel.wipe (r : Rel C W s c σ H) : ∀ vs : List Nat, Rel C W (swipe s vs) c (L2.wipe σ vs) H
  | [] => r
  | v :: vs => (Rel.wipe r vs).wipe1 v
theorem swipe_no {v : Nat} {z : SV} : ∀ {vs : List Nat}, v ∈ vs → (swipe s vs)[v]? = some z → z = .no
  | u :: vs, h, e => by
    have e' : ((swipe s vs).set u .no)[v]? = some z := e
    rcases set_get e' with ⟨_, q⟩ | ⟨q, e2⟩
    · exact q.symm
    · rcases List.mem_cons.mp h with h | h
      · exact absurd h.symm q
      · exact swipe_no h e2
theorem srest_get {j : Nat} {z : SV} : ∀ {vs : List Nat}, (srest s0 s vs)[j]? = some z → (j ∈ vs ∧ (z = .no ∨ ∃ d, z = .fz d ∧ s0[j]? = some (.fz d))) ∨ (j ∉ vs ∧ s[j]? = some z)
  | [], h => .inr ⟨by simp, h⟩
  | v :: vs, h => by
    rcases set_get h with ⟨e, q⟩ | ⟨e, q⟩
    · subst e
      left
      refine ⟨by simp, ?_⟩
      cases e0 : s0[v]? with
      | none => rw [e0] at q; exact .inl q.symm
      | some y =>
        rw [e0] at q
        cases y with
        | no => exact .inl q.symm
        | ow d => exact .inl q.symm
        | fz d => exact .inr ⟨d, q.symm, rfl⟩
    · rcases srest_get q with ⟨h1, h2⟩ | ⟨h1, h2⟩
      · exact .inl ⟨List.mem_cons_of_mem _ h1, h2⟩
      · right
        refine ⟨fun z => ?_, h2⟩
        rcases List.mem_cons.mp z with z | z
        · exact e z.symm
        · exact h1 z
theorem srest_len : ∀ vs : List Nat, (srest s0 s vs).length = s.length
  | [] => rfl
  | v :: vs => by
    show ((srest s0 s vs).set v _).length = _
    rw [List.length_set, srest_len vs]
theorem Rel.rest {vs : List Nat} (r : Rel C W s c (L2.wipe σ vs) H) (r0 : Rel C W0 s0 c0 σ H0) (l : W0.le W) : Rel C W (srest s0 s vs) c σ H := by
  have lk : ∀ {j : Nat} {x : Option V}, j ∉ vs → (L2.wipe σ vs)[j]? = some x → σ[j]? = some x := fun {j x} hj h => by
    rw [wipe_get, if_neg hj] at h
    exact h
  refine ⟨r.sub, r.fr, r.nw, r.clen, r.rin, r.rnw, r.cnd, r.cel, by rw [srest_len]; have := r.slen; rw [wipe_length] at this; exact this, fun j d h => ?_, fun j d h => ?_, fun j k d e a h1 h2 h3 h4 => ?_⟩
  · rcases srest_get h with ⟨_, z | ⟨d', z, h0⟩⟩ | ⟨hj, h⟩
    · cases z
    · cases z
      obtain ⟨v, e1, p⟩ := r0.sfz j d h0
      exact ⟨v, e1, p.mono l⟩
    · obtain ⟨v, e1, p⟩ := r.sfz j d h
      exact ⟨v, lk hj e1, p⟩
  · rcases srest_get h with ⟨_, z | ⟨d', z, h0⟩⟩ | ⟨hj, h⟩
    · cases z
    · cases z
    · obtain ⟨a, o, e1, p⟩ := r.sow j d h
      exact ⟨a, o, lk hj e1, p⟩
  · rcases srest_get h1 with ⟨_, z | ⟨d', z, h0⟩⟩ | ⟨hj, h1⟩
    · cases z
    · cases z
    · rcases srest_get h2 with ⟨_, z | ⟨d', z, h0⟩⟩ | ⟨hk, h2⟩
      · cases z
      · cases z
      · refine r.dis j k d e a h1 h2 ?_ ?_
        · rw [wipe_get, if_neg hj]; exact h3
        · rw [wipe_get, if_neg hk]; exact h4
theorem Rel.kx {K' : XV → Wd → SL → CL → Hp → Prop} (r : Rel C W s c σ H) : Rel { C with KX := K' } W s c σ H := ⟨r.sub, r.fr, r.nw, r.clen, r.rin, r.rnw, r.cnd, r.cel, r.slen, r.sfz, r.sow, r.dis⟩
/-- the held thing is another one now -/
theorem Rel.rehold {a : Addr} {o o' : HO} (r : Rel (C.hold a o) W s c σ H) (hR : a ∉ C.R0) : Rel (C.hold a o') W s c σ (upd H a o') := by
  obtain ⟨g1, g2, g3, g4⟩ := r.held hR
  have fr : ∀ {b u}, b ≠ a → H b = some u → upd H a o' b = some u := fun n q => by rw [upd_ne n]; exact q
  refine ⟨fun b u e => fr (fun z => by rw [z, g2] at e; cases e) (r.sub b u e), fun b u e m => ?_, fun b u e => ?_, r.clen, r.rin, fun b e => ?_, r.cnd, fun i d b e1 e2 => ?_, r.slen, r.sfz, fun i d e => ?_, r.dis⟩
  · by_cases hb : b = a
    · subst hb
      have e' : upd C.H0 b o' b = some u := e
      rw [upd_same] at e' ⊢
      exact e'
    · have e' : upd C.H0 a o' b = some u := e
      rw [upd_ne hb] at e'
      refine fr hb (r.fr b u ?_ m)
      show upd C.H0 a o b = some u
      rw [upd_ne hb]
      exact e'
  · rcases r.nw b u e with q | q
    · exact .inl q
    · obtain ⟨n, q⟩ := hold_none q
      right
      show upd C.H0 a o' b = none
      rw [upd_ne n]
      exact q
  · rcases r.rnw b e with q | q
    · exact .inl q
    · obtain ⟨n, q⟩ := hold_none q
      right
      show upd C.H0 a o' b = none
      rw [upd_ne n]
      exact q
  · obtain ⟨q1, u, q2, q3⟩ := r.cel i d b e1 e2
    exact ⟨q1, u, fr (fun z => g3 (by rw [← z]; exact List.mem_of_getElem? e2)) q2, q3⟩
  · obtain ⟨b, u, e1, e2, e3, f1, f2, f3⟩ := r.sow i d e
    have n : b ≠ a := fun z => g4 i d e (by rw [← z]; exact e1)
    refine ⟨b, u, e1, fr n e2, e3, f1, f2, ?_⟩
    show upd C.H0 a o' b = none
    rw [upd_ne n]
    exact (hold_none f3).2
end

/-! ### targets in a block: the other names stay -/
def TGw (G : Gp) (vs : List Nat) (g : MG) : TG := fun v σ H Q => ∃ C W s c d, C.G = G ∧ Rel C W s c σ H ∧ Rp C.G W d v ∧ ∃ s', g d s = some s' ∧ ∀ σ', wipe σ' vs = wipe σ vs → Rel C W s' c σ' H → Q σ' H
def TGsw (G : Gp) (vs : List Nat) (g : List D → SL → Option SL) : TGs := fun us σ H Q => ∃ C W s c ds, C.G = G ∧ Rel C W s c σ H ∧ Rps C.G W ds us ∧ ∃ s', g ds s = some s' ∧ ∀ σ', wipe σ' vs = wipe σ vs → Rel C W s' c σ' H → Q σ' H
section
variable {X : Cx} {G : Gp} {e : Expr} {es : List Expr} {x : Str} {i n k : Nat} {pos : Pos} {g : MG} {r : List D → SL → Option SL} {vs : List Nat}
theorem wg_name (hN : X.N.Nodup) (hi : X.N[i]? = some x) (hx : Loc X.env.scope x) (hv : i ∈ vs) (hf : X.fn x = true ∨ X.env.scope.names.lookup x = some .local := by first | exact .inl rfl | exact .inr rfl | assumption) : PG X (.Name x pos) (TGw G vs (gN i)) :=
  PGimp (pg_name hN hi hx hf) fun v σ H Q ⟨C, W, s, c, d, _, R, p, s', e, q⟩ => by
    cases e
    exact q _ (wipe_set hv) (R.setF p i)
theorem wg_nil : PGs X [] (TGsw G vs gsNil) := PGsimp pgs_nil fun us σ H Q ⟨C, W, s, c, ds, _, R, p, s', e, q⟩ => by
  cases p with
  | nil =>
    cases e
    exact ⟨rfl, q σ rfl R⟩
  | cons _ _ => cases e
theorem wg_cons (h1 : PG X e (TGw G vs g)) (h2 : PGs X es (TGsw G vs r)) (hs : (assignEach (e :: es) X.env).map (·.2) = assign e X.env :: (assignEach es X.env).map (·.2) := by rfl) : PGs X (e :: es) (TGsw G vs (gsCons g r)) :=
  PGsimp (pgs_cons h1 h2 hs) fun us σ H Q ⟨C, W, s, c, ds, hG, R, p, s', e, q⟩ => by
    cases p with
    | nil => cases e
    | @cons d v ds us a t =>
      have e' : (g d s).bind (r ds) = some s' := e
      cases e1 : g d s with
      | none => rw [e1] at e'; cases e'
      | some s1 =>
        rw [e1] at e'
        exact ⟨v, us, rfl, C, W, s, c, d, hG, R, a, s1, e1, fun σ1 w1 R1 => ⟨C, W, s1, c, ds, hG, R1, t, s', e', fun σ2 w2 R2 => q σ2 (w2.trans w1) R2⟩⟩
theorem wg_tup (hK : X.K = G.K) (hc : X.calm = true) (h : PGs X es (TGsw G vs r)) (hn : (assignEach es X.env).length = n := by rfl) (hst : (assignEach es X.env).findIdx? (·.1) = none := by rfl) : PG X (.Tuple es k pos) (TGw G vs (gT n r)) :=
  PGimp (pg_tup hc h hn hst) fun v σ H Q ⟨C, W, s, c, d, hG, R, p, s', e, q⟩ => by
    cases d <;> first | (cases e; done) | skip
    rename_i ds
    obtain ⟨h0, h1⟩ := ifs e
    subst hG
    cases p with
    | tup hq rs =>
      rw [hK]
      exact ⟨_, _, rfl, SqT.mono hq R.sub, by rw [← rs.length]; exact h0, C, W, s, c, ds, rfl, R, rs, s', h1, q⟩
end

/-! ### the comprehension -/
def Ot.sure {α : Type} (o : Ot α) : Ot α := match o with
  | .ok a s c => .ok a s c
  | _ => .bad
def cLoop (lk : Lk) (g : MG) (t : MT) (m : ME) (vs : List Nat) (fin : SL → SL) : Nat → Nat → List D → ME
  | 0, _, _ => fun _ _ => .bad
  | n + 1, i, acc => fun s c => match lk i s c with
    | none => .bad
    | some none => .ok (.lst acc, true) (fin s) c
    | some (some d) => (match g d s with
      | none => .bad
      | some s => ((t s c).sure).bind fun k s c => if k = true then ((m s c).sure).bind fun r s c => if acc.length < sizeLine then cLoop lk g t m vs fin n (i + 1) (acc ++ [r.1]) (swipe s vs) c else .bad
        else cLoop lk g t m vs fin n (i + 1) acc (swipe s vs) c)
/-- [m for g in mi if t] -/
def mLc (mi : MI) (g : MG) (t : MT) (m : ME) (vs : List Nat) : ME := fun s c => (mi s c).bind fun l s c => cLoop l.2 g t m vs (fun s' => srest s s' vs) l.1 0 [] (swipe s vs) c
/-- the ground of a block: no exception leaves -/
def Gq (G : Gp) (H0 F0 : Hp) (R0 : List Addr) : Cg := ⟨G, H0, F0, R0, fun _ _ _ _ _ => False⟩
def TEq (G : Gp) (m : ME) : TE := fun σ H Q => ∃ H0 F0 R0, TEv (Gq G H0 F0 R0) m σ H Q
def TTq (G : Gp) (m : MT) : TT := fun σ H Q => ∃ H0 F0 R0, TTv (Gq G H0 F0 R0) m σ H Q
theorem peq {X : Cx} {G : Gp} {e : Expr} {m : ME} (h : ∀ H0 F0 R0, PE X e (TEv (Gq G H0 F0 R0) m)) : PE X e (TEq G m) := ⟨fun pins s σ H Q I ⟨H0, F0, R0, q⟩ => (h H0 F0 R0).run pins s σ H Q I q⟩
theorem ptq {X : Cx} {G : Gp} {e : Expr} {m : MT} (h : ∀ H0 F0 R0, PT X e (TTv (Gq G H0 F0 R0) m)) : PT X e (TTq G m) := ⟨fun pins s σ H Q I ⟨H0, F0, R0, q⟩ => (h H0 F0 R0).run pins s σ H Q I q⟩
theorem PTsimp {X : Cx} {e : List Expr} {t t' : TT} (h : PTs X e t) (i : ∀ σ H Q, t' σ H Q → t σ H Q) : PTs X e t' := ⟨fun pins s σ H Q I q => h.run pins s σ H Q I (i σ H Q q)⟩
def tYesM : MT := fun s c => .ok true s c
theorem ptsq_nil {X : Cx} {G : Gp} : PTs X [] (TTq G tYesM) := PTsimp pts_nil fun σ H Q ⟨_, _, _, W, s, c, R, k⟩ => k W H (.refl W) R
theorem ptsq_one {X : Cx} {G : Gp} {e : Expr} {t : MT} (h : ∀ H0 F0 R0, PT X e (TTv (Gq G H0 F0 R0) t)) : PTs X [e] (TTq G t) := pts_one (ptq h)
theorem KontI.bind {C : Cg} {W : Wd} {σ : St} {o : Ot (Nat × Lk)} {k : Nat × Lk → ME} {Q : VK} (h : Kont C σ W (o.bind k) Q) :
    KontI C σ W o fun J H1 => ∃ W1 s1 c1 lk, W.le W1 ∧ Rel C W1 s1 c1 σ H1 ∧ LkR C.G W1 lk.2 J ∧ Kont C σ W1 (k lk s1 c1) Q := by
  cases o with
  | ok a s' c' => exact fun W1 v H1 l r q => ⟨W1, s', c', a, l, r, q, Kont.up l h⟩
  | ex x s' c' => exact h
  | bad => exact h
section
variable {C : Cg} {D0 : Addr} {o : HO}
/-- in the block, the new list held -/
theorem sureT {σ : St} {W : Wd} {om : Ot Bool} {k : Bool → ME} {Q : Bool → Hp → Prop} {P : Ot (D × Bool) → Prop} (hbad : ¬ P .bad) (h : P ((om.sure).bind k))
    (n : ∀ b s c, P (k b s c) → ∀ W' H', W.le W' → Rel (Gq C.G (C.hold D0 o).H0 (C.hold D0 o).F0 C.R0) W' s c σ H' → Q b H') : KontT (Gq C.G (C.hold D0 o).H0 (C.hold D0 o).F0 C.R0) σ W om Q := by
  cases om with
  | ok b s c => exact fun W' H' l R => n b s c h W' H' l R
  | ex x s c => exact absurd h hbad
  | bad => exact absurd h hbad
theorem sureE {σ : St} {W : Wd} {om : Ot (D × Bool)} {k : D × Bool → ME} {Q : VK} {P : Ot (D × Bool) → Prop} (hbad : ¬ P .bad) (h : P ((om.sure).bind k))
    (n : ∀ d b s c, P (k (d, b) s c) → ∀ W' v H', W.le W' → Rel (Gq C.G (C.hold D0 o).H0 (C.hold D0 o).F0 C.R0) W' s c σ H' → Rr (Gq C.G (C.hold D0 o).H0 (C.hold D0 o).F0 C.R0) W' s σ H' d b v → Q v H') : Kont (Gq C.G (C.hold D0 o).H0 (C.hold D0 o).F0 C.R0) σ W om Q := by
  cases om with
  | ok r s c =>
    obtain ⟨d, b⟩ := r
    exact fun W' v H' l R q => n d b s c h W' v H' l R q
  | ex x s c => exact absurd h hbad
  | bad => exact absurd h hbad
end
theorem lc_of {C : Cg} {mi : MI} {g : MG} {t : MT} {m : ME} {vs : List Nat} {σ : St} {H : Hp} {Q : VK} (q : TEv C (mLc mi g t m vs) σ H Q) : tLc (TIv C mi) (TGw C.G vs g) (TTq C.G t) (TEq C.G m) vs σ H Q := by
  obtain ⟨W, s, c, R, k⟩ := q
  refine ⟨W, s, c, R, (KontI.bind k).thn fun J H1 ⟨W1, s1, c1, lk, l, R1, q1, k1⟩ D hD => ?_⟩
  have nR : D ∉ W1.R := R1.notR hD
  have nR0 : D ∉ C.R0 := fun z => nR (R1.rin D z)
  have nH0 : C.H0 D = none := R1.noH0 hD
  have start : Rel (C.hold D (.lst [])) W1 s1 c1 σ (upd H1 D (.lst [])) :=
    (R1.laid (o := .lst []) hD).hold upd_same (R1.noF hD) nR (R1.noOw hD)
  refine ⟨fun i mm H => ∃ W s c ds accV, W1.le W ∧ Rel (C.hold D (.lst accV)) W s c (wipe σ vs) H ∧ Rps C.G W ds accV ∧ Kont C σ W (cLoop lk.2 g t m vs (fun s' => srest s1 s' vs) mm i ds s c) Q, ⟨lk.1, W1, swipe s1 vs, c1, [], [], .refl W1, start.wipe vs, .nil, k1⟩, ?_⟩
  rintro i mm H2 ⟨W2, s2, c2, ds, accV, l2, R2, rs, k2⟩
  cases mm with
  | zero => exact k2.elim
  | succ n =>
    obtain ⟨st, it⟩ := q1 (C.hold D (.lst accV)) W2 s2 c2 _ H2 i rfl l2 R2
    have k3 : Kont C σ W2 (match lk.2 i s2 c2 with
      | none => .bad
      | some none => .ok (.lst ds, true) (srest s1 s2 vs) c2
      | some (some d) => (match g d s2 with
        | none => .bad
        | some s => ((t s c2).sure).bind fun k s c => if k = true then ((m s c).sure).bind fun r s c => if ds.length < sizeLine then cLoop lk.2 g t m vs (fun s' => srest s1 s' vs) n (i + 1) (ds ++ [r.1]) (swipe s vs) c else .bad
          else cLoop lk.2 g t m vs (fun s' => srest s1 s' vs) n (i + 1) ds (swipe s vs) c)) Q := k2
    cases e : lk.2 i s2 c2 with
    | none => rw [e] at k3; exact k3.elim
    | some oo =>
      cases oo with
      | none =>
        rw [e] at k3
        refine .inl ⟨st e, ?_⟩
        obtain ⟨g1, g2, g3, g4⟩ := R2.held nR0
        have R3 : Rel C W2 (srest s1 s2 vs) c2 σ H2 := (R2.unhold nH0).rest R1 l2
        refine k3 W2 (.ref D) H2 (.refl W2) R3 ?_
        unfold Rr
        rw [if_pos rfl]
        refine ⟨D, _, rfl, g1, ⟨accV, rfl, rs⟩, g2, g3, nH0, fun j e hj z => ?_⟩
        rcases srest_get hj with ⟨_, y | ⟨d', y, _⟩⟩ | ⟨hn, hj⟩
        · cases y
        · cases y
        · exact g4 j e hj (by rw [wipe_get, if_neg hn]; exact z)
      | some d =>
        rw [e] at k3
        obtain ⟨go, yl⟩ := it d e
        refine .inr ⟨go, fun H => ∃ W s c ds accV, W1.le W ∧ Rel (C.hold D (.lst accV)) W s c (wipe σ vs) H ∧ Rps C.G W ds accV ∧ Kont C σ W (cLoop lk.2 g t m vs (fun s' => srest s1 s' vs) n (i + 1) ds s c) Q, fun H' h => ⟨n, Nat.lt_succ_self n, h⟩, fun x H' y => ?_⟩
        obtain ⟨W3, l3, R3, p3⟩ := yl x H' y
        have k4 : Kont C σ W2 (match g d s2 with
          | none => .bad
          | some s => ((t s c2).sure).bind fun k s c => if k = true then ((m s c).sure).bind fun r s c => if ds.length < sizeLine then cLoop lk.2 g t m vs (fun s' => srest s1 s' vs) n (i + 1) (ds ++ [r.1]) (swipe s vs) c else .bad
            else cLoop lk.2 g t m vs (fun s' => srest s1 s' vs) n (i + 1) ds (swipe s vs) c) Q := k3
        cases eg : g d s2 with
        | none => rw [eg] at k4; exact k4.elim
        | some s3 =>
          rw [eg] at k4
          refine ⟨C.hold D (.lst accV), W3, s2, c2, d, rfl, R3, p3, s3, eg, fun σ2 w2 R4 => ⟨by rw [w2, wipe_wipe], ?_⟩⟩
          rw [wipe_wipe] at w2
          refine ⟨(C.hold D (.lst accV)).H0, (C.hold D (.lst accV)).F0, C.R0, W3, s3, c2, R4.kx, ?_⟩
          refine sureT (P := fun o => Kont C σ W3 o Q) (fun z => z) (Kont.up l3 k4) fun b s5 c5 k5 W5 H5 l5 R5 => ?_
          have k5' := Kont.up l5 k5
          have R5' : Rel (C.hold D (.lst accV)) W5 s5 c5 σ2 H5 := R5.kx
          cases b with
          | false =>
            rw [if_neg (by decide)] at k5' ⊢
            have R6 := R5'.wipe vs
            rw [w2] at R6
            exact ⟨W5, _, c5, ds, accV, l2.trans (l3.trans l5), R6, rs.mono (l3.trans l5), k5'⟩
          | true =>
            rw [if_pos rfl] at k5' ⊢
            refine ⟨(C.hold D (.lst accV)).H0, (C.hold D (.lst accV)).F0, C.R0, W5, s5, c5, R5, ?_⟩
            refine sureE (P := fun o => Kont C σ W5 o Q) (fun z => z) k5' fun d6 b6 s6 c6 k6 W6 v H6 l6 R6 q6 => ?_
            have k6' := Kont.up l6 k6
            obtain ⟨W7, l7, R7, p7⟩ := R6.freezeR q6
            have R7' : Rel (C.hold D (.lst accV)) W7 s6 c6 σ2 H6 := R7.kx
            by_cases hz : ds.length < sizeLine
            · rw [if_pos hz] at k6'
              obtain ⟨g1, g2, g3, g4⟩ := R7'.held nR0
              have rs7 := rs.mono (l3.trans (l5.trans (l6.trans l7)))
              have R8 := (R7'.rehold (o' := .lst (accV ++ [v])) nR0).wipe vs
              rw [w2] at R8
              exact ⟨accV, g1, by rw [← rs.len]; exact hz, W7, _, c6, ds ++ [d6], accV ++ [v], l2.trans (l3.trans (l5.trans (l6.trans l7))), R8, rs7.append (.cons p7 .nil), Kont.up l7 k6'⟩
            · rw [if_neg hz] at k6'
              exact k6'.elim
section
variable {X : Cx} {C : Cg} {elt tg iter : Expr} {ifs : List Expr} {scope : Scope} {own : List (Str × Nat)} {pos : Pos} {mi : MI} {g : MG} {t : MT} {m : ME}
theorem ve_lc {vs : List Nat} (hc : X.calm = true) (hN : X.N.Nodup) (hi : PI X tg iter (TIv C mi)) (ok : BlkOk X.N X.env.scope scope own)
    (hg : ∀ (s : Shared) (H : Hp) (L : Addr) (cl : List (Str × Addr)) (fp : List Addr), PG (X.blk s H scope (compEnvC scope cl L X.env) fp) tg (TGw C.G (own.map (·.2)) g)) (ht : ∀ (s : Shared) (H : Hp) (L : Addr) (cl : List (Str × Addr)) (fp : List Addr), PTs (X.blk s H scope (compEnvC scope cl L X.env) fp) ifs (TTq C.G t))
    (he : ∀ (s : Shared) (H : Hp) (L : Addr) (cl : List (Str × Addr)) (fp : List Addr) H0 F0 R0, PE (X.blk s H scope (compEnvC scope cl L X.env) fp) elt (TEv (Gq C.G H0 F0 R0) m)) (hvs : own.map (·.2) = vs := by rfl) (hs : ∀ x, foldedSetIterable iter X.env x = pure x := by intro _; rfl) :
    PE X (.ListComp elt [⟨tg, iter, ifs, 0⟩] scope pos) (TEv C (mLc mi g t m vs)) :=
  hvs ▸ PEimp (pe_lc hc hN hi ok hg ht (fun s H L cl fp => peq (he s H L cl fp)) hs) fun _ _ _ q => lc_of q
theorem vs_setLc {vs : List Nat} {i : Nat} {y : Str} {py spos : Pos} (hc : X.calm = true) (hN : X.N.Nodup) (hy : X.N[i]? = some y) (hyl : X.env.scope.names.lookup y = some .local)
    (hsw : swapsWith (.ListComp elt [⟨tg, iter, ifs, 0⟩] scope pos) (some (.Name y py)) spos.line X.env = pure true) (hi : PI X tg iter (TIv C mi)) (ok : BlkOk X.N X.env.scope scope own)
    (hg : ∀ (s : Shared) (H : Hp) (L : Addr) (cl : List (Str × Addr)) (fp : List Addr), PG (X.blk s H scope (compEnvC scope cl L X.env) fp) tg (TGw C.G (own.map (·.2)) g)) (ht : ∀ (s : Shared) (H : Hp) (L : Addr) (cl : List (Str × Addr)) (fp : List Addr), PTs (X.blk s H scope (compEnvC scope cl L X.env) fp) ifs (TTq C.G t))
    (he : ∀ (s : Shared) (H : Hp) (L : Addr) (cl : List (Str × Addr)) (fp : List Addr) H0 F0 R0, PE (X.blk s H scope (compEnvC scope cl L X.env) fp) elt (TEv (Gq C.G H0 F0 R0) m)) (hvs : own.map (·.2) = vs := by rfl) (hs : ∀ x, foldedSetIterable iter X.env x = pure x := by intro _; rfl) :
    PS X (.Assign [.Name y py] (.ListComp elt [⟨tg, iter, ifs, 0⟩] scope pos) spos) (TSv C (sSet i (mLc mi g t m vs))) :=
  hvs ▸ PSimp (ps_setLc hc hN hy hyl hsw hi ok hg ht (fun s H L cl fp => peq (he s H L cl fp)) hs) fun D σ H q => by
    have z := set_of (C := C) q
    exact lc_of z
end
end EV

set_option Elab.async false
set_option linter.all false
set_option maxRecDepth 100000
/-! EV 12: defs, calls of defs, isinstance -/
namespace EV
open PySem PySem.Spec L2
open PyProof.Rows hiding St

/-! ### defs -/
def grd (G : Gp) (H : Hp) (W : Wd) : Cg := Gq G H W.F W.R
/-- what a def does: its arguments, the cells -/
abbrev FM := List D → CL → Ot (D × Bool)
def spEv (G : Gp) (n : Nat) (f : FM) : Sp := fun vs H Q E => vs.length = n ∧ ∃ W c ds, Rel (grd G H W) W [] c [] H ∧ Rps G W ds vs ∧ Kont (grd G H W) [] W (f ds c) Q
def fM (n : Nat) (b : MS) : FM := fun ds c => match b (ds.map .fz ++ List.replicate (n - ds.length) .no) c with
  | .nx s c => .ok (.non, false) [] c
  | .rt d b s c => .ok (d, b) [] c
  | _ => .bad
section
variable {C : Cg} {W W' : Wd} {s : SL} {c c' : CL} {σ : St} {H H' : Hp} {d : D} {b : Bool} {v : V}
theorem Rel.base (r : Rel C W s c σ H) : Rel (grd C.G H W) W [] c [] H :=
  ⟨r.sub, fun a o e _ => e, fun a o e => .inl e, r.clen, fun a e => e, fun a e => .inl e, r.cnd, r.cel, rfl, fun i d e => by simp at e, fun i d e => by simp at e, fun i j d e a h => by simp at h⟩
theorem Rel.back (r : Rel C W s c σ H) (l : W.le W') (q : Rel (grd C.G H W) W' [] c' [] H') : Rel C W' s c' σ H' := by
  have inR : ∀ {a}, a ∈ W.R → a ∈ W'.R := fun {a} h => by
    obtain ⟨i, hi, e⟩ := List.mem_iff_getElem.mp h
    exact List.mem_of_getElem? (l.R i a (by rw [List.getElem?_eq_getElem hi, e]))
  have old : ∀ {a o}, H a = some o → a ∉ W.R → H' a = some o ∧ a ∉ W'.R := fun {a o} h n => by
    have n' : a ∉ W'.R := fun m => by
      rcases q.rnw a m with z | z
      · exact n z
      · have z' : H a = none := z
        rw [h] at z'
        cases z'
    exact ⟨q.fr a o h n', n'⟩
  refine ⟨q.sub, fun a o e m => (old (r.fr a o e fun z => m (inR z)) fun z => m (inR z)).1, fun a o e => ?_, q.clen, fun a e => inR (r.rin a e), fun a e => ?_, q.cnd, q.cel, r.slen, fun i d e => ?_, fun i d e => ?_, r.dis⟩
  · rcases q.nw a o e with z | z
    · exact r.nw a o z
    · exact .inr (r.noH0 z)
  · rcases q.rnw a e with z | z
    · exact r.rnw a z
    · exact .inr (r.noH0 z)
  · obtain ⟨v, e1, p⟩ := r.sfz i d e
    exact ⟨v, e1, p.mono l⟩
  · obtain ⟨a, o, e1, e2, e3, f1, f2, f3⟩ := r.sow i d e
    obtain ⟨g1, g2⟩ := old e2 f2
    refine ⟨a, o, e1, g1, e3.mono l, ?_, g2, f3⟩
    cases z : W'.F a with
    | none => rfl
    | some u =>
      rcases q.nw a u z with y | y
      · have y' : W.F a = some u := y
        rw [f1] at y'
        cases y'
      · have y' : H a = none := y
        rw [e2] at y'
        cases y'
theorem Rr.back (r : Rel C W s c σ H) (q : Rr (grd C.G H W) W' [] [] H' d b v) : Rr C W' s σ H' d b v := by
  unfold Rr at q ⊢
  cases b with
  | false => exact q
  | true =>
    rw [if_pos rfl] at q ⊢
    obtain ⟨a, o, rfl, e2, e3, f1, f2, f3, _⟩ := q
    exact ⟨a, o, rfl, e2, e3, f1, f2, r.noH0 f3, r.noOw f3⟩
end
theorem start_rel {G : Gp} {H : Hp} {W : Wd} {c : CL} {ds : List D} {vs : List V} {N : List Str} (R : Rel (grd G H W) W [] c [] H) (r : Rps G W ds vs) : Rel (grd G H W) W (ds.map .fz ++ List.replicate (N.length - ds.length) .no) c (L2.start N vs) H := by
  have hl := r.len
  have look : ∀ {i : Nat} {x : SV}, (ds.map SV.fz ++ List.replicate (N.length - ds.length) SV.no)[i]? = some x → x ≠ .no → ∃ d, ds[i]? = some d ∧ x = .fz d := fun {i x} e n => by
    by_cases hi : i < ds.length
    · rw [List.getElem?_append_left (by simpa using hi), List.getElem?_map] at e
      cases e0 : ds[i]? with
      | none => rw [e0] at e; cases e
      | some d =>
        rw [e0] at e
        cases e
        exact ⟨d, rfl, rfl⟩
    · rw [List.getElem?_append_right (by simpa using hi), List.getElem?_replicate] at e
      split at e
      · cases e; exact absurd rfl n
      · cases e
  refine ⟨R.sub, R.fr, R.nw, R.clen, R.rin, R.rnw, R.cnd, R.cel, ?_, fun i d e => ?_, fun i d e => ?_, fun i j d e a h => ?_⟩
  · unfold L2.start
    simp only [List.length_append, List.length_map, List.length_replicate, hl]
  · obtain ⟨d', e0, z⟩ := look e (fun z => nomatch z)
    cases z
    obtain ⟨v, e1, p⟩ := r.at_ e0
    refine ⟨v, ?_, p⟩
    unfold L2.start
    have hi := (List.getElem?_eq_some_iff.mp e1).1
    rw [List.getElem?_append_left (by simpa using hi), List.getElem?_map, e1]
    rfl
  · obtain ⟨d', e0, z⟩ := look e (fun z => nomatch z)
    cases z
  · obtain ⟨d', e0, z⟩ := look h (fun z => nomatch z)
    cases z
theorem body_ok {G : Gp} {N : List Str} {m : MS} {n : Nat} {vs : List V} {H : Hp} {Q : VK} {E : XK} (h : spEv G n (fM N.length m) vs H Q E) :
    ∃ W, TSv (grd G H W) m { nx := fun _ H' => Q .non H', rt := Q } (L2.start N vs) H := by
  obtain ⟨_, W, c, ds, R, r, k⟩ := h
  refine ⟨W, W, _, c, start_rel R r, ?_⟩
  have sh : ∀ {W' : Wd} {s' : SL} {c' : CL} {σ' : St} {H' : Hp}, Rel (grd G H W) W' s' c' σ' H' → Rel (grd G H W) W' [] c' [] H' := fun q =>
    ⟨q.sub, q.fr, q.nw, q.clen, q.rin, q.rnw, q.cnd, q.cel, rfl, fun i d e => by simp at e, fun i d e => by simp at e, fun i j d e a h => by simp at h⟩
  unfold fM at k
  cases e : m (ds.map .fz ++ List.replicate (N.length - ds.length) .no) c with
  | nx s' c' =>
    rw [e] at k
    exact fun W' σ' H' l R' => k W' .non H' l (sh R') (.fz .non)
  | rt d b s' c' =>
    rw [e] at k
    refine fun W' v σ' H' l R' q => k W' v H' l (sh R') ?_
    unfold Rr at q ⊢
    cases b with
    | false => exact q
    | true =>
      rw [if_pos rfl] at q ⊢
      obtain ⟨a, o, e1, e2, e3, f1, f2, f3, _⟩ := q
      exact ⟨a, o, e1, e2, e3, f1, f2, f3, fun i e h => by simp at h⟩
  | bk s' c' => rw [e] at k; exact k.elim
  | ct s' c' => rw [e] at k; exact k.elim
  | ex x s' c' => rw [e] at k; exact k.elim
  | bad => rw [e] at k; exact k.elim
/-- a def of the text at the top: where it stands, how it binds, what it does -/
structure Fn (P : Program) (w : World) (mg : Str → Option Value) (base : Heap) (G : Gp) (k : Nat) (x : Str) (st : Stmt) (ps : List Str) (f : FM) : Prop where
  ex : ∃ a fd, mg x = some (.ref a) ∧ FunD G.K x x (defArgs st) (defBody st) (defScope st) [] [] a fd ∧ Binds G.K fd ps [] ∧ FnOk P w G.K mg base CX0 k a fd ps (spEv G ps.length f)
section
variable {P : Program} {w : World} {mg : Str → Option Value} {base : Heap} {G : Gp} {k : Nat} {x : Str} {st : Stmt} {ps N : List Str} {a : Addr} {fd : FuncData} {m : MS}
theorem fn_mk (g : mg x = some (.ref a)) (F : FunD G.K x x (defArgs st) (defBody st) (defScope st) [] [] a fd) (S : FnScope N ps (defScope st))
    (bd : ∀ (kV doc pm : Value) (an : Option Addr) (cdv ct : Value) (us : List Value), us.length = ps.length → bindArgs (PySem.W.fnOf x x (defArgs st) (defBody st) (defScope st) .none kV doc pm an cdv ct) ⟨us, []⟩ = pure (ps.zip us))
    (hb : ∀ (cdv : Value) (A : Around) (outer : List Env) (s : Shared) (H : Hp) (E : XK), Room k (A.deeper (envOfC x (defScope st) s.heap.objs.size a cdv)) → ∀ H0 F0 R0,
      PSs (cxOf CX0 P w G.K mg base N x (defScope st) a cdv A outer s H E).nox (defBody st) (TSv (Gq G H0 F0 R0) m)) : Fn P w mg base G (k + 1) x st ps (fM N.length m) :=
  ⟨a, fd, g, F, F.bindsN bd, F.ok S (fun vs H Q E h => h.1) fun cdv A outer s H vs Q E hr h => by
    obtain ⟨W, q⟩ := body_ok h
    exact ⟨_, (hb cdv A outer s H E hr H W.F W.R).nox, q⟩⟩
theorem Fn.mono {j : Nat} {f : FM} (F : Fn P w mg base G j x st ps f) (h : j ≤ k) : Fn P w mg base G k x st ps f := by
  obtain ⟨a, fd, h1, h2, h3, h4⟩ := F.ex
  exact ⟨a, fd, h1, h2, h3, h4.mono h⟩
end
def kFn (f : FM) (o : Option (List D)) : ME := fun s c => match o with
  | some ds => (match f ds c with
    | .ok r _ c => .ok r s c
    | _ => .bad)
  | none => .bad
def mFn (n : Nat) (f : FM) (m : MA) : ME := fun s c => (m s c).bind fun ods s c => if ods.length = n then kFn f (valsOf ods) s c else .bad
theorem ifK {C : Cg} {σ : St} {W : Wd} {p : Prop} [Decidable p] {o : Ot (D × Bool)} {Q : VK} (h : Kont C σ W (if p then o else .bad) Q) : p ∧ Kont C σ W o Q := by
  by_cases z : p
  · rw [if_pos z] at h; exact ⟨z, h⟩
  · rw [if_neg z] at h; exact h.elim
theorem OdRs.len {C : Cg} {W : Wd} {σ : St} {os : List Od} {vs : List V} (h : OdRs C W σ os vs) : os.length = vs.length := by
  induction h with
  | nil => rfl
  | cons _ _ ih => simp [ih]
theorem kFn_of {C : Cg} {W : Wd} {s : SL} {c : CL} {σ : St} {H : Hp} {f : FM} {ds : List D} {vs : List V} {Q : VK} {E : XK} (R : Rel C W s c σ H) (r : Rps C.G W ds vs) (k : Kont C σ W (kFn f (some ds) s c) Q) : spEv C.G vs.length f vs H Q E := by
  refine ⟨rfl, W, c, ds, R.base, r, ?_⟩
  have k' : Kont C σ W (match f ds c with
    | .ok r _ c => .ok r s c
    | _ => .bad) Q := k
  cases e : f ds c with
  | bad => rw [e] at k'; exact k'.elim
  | ex x s' c' => rw [e] at k'; exact k'.elim
  | ok r s' c' =>
    rw [e] at k'
    obtain ⟨d, b⟩ := r
    intro W' v H' l R' q
    have e0 : s' = [] := by
      have := R'.slen
      cases s' with
      | nil => rfl
      | cons _ _ => cases this
    subst e0
    exact k' W' v H' l (R.back l R') (q.back R)
section
variable {X : Cx} {C : Cg} {k : Nat} {x : Str} {st : Stmt} {ps : List Str} {f : FM} {e : Expr} {es : List Expr} {p pos : Pos} {m mk : MA}
theorem ve_fn {n : Nat} (F : Fn X.prog X.w X.mg X.base C.G k x st ps f) (hK : X.K = C.G.K) (hr : Room k X.A) (hg : Gl X x) (ha : PA X (e :: es) (TAv C m)) (hs : (e :: es).all noStar = true) (hn : ps.length = n := by rfl) (hdb : (x == ("__debug__" : Str)) = false := by decide) :
    PE X (.Call (.Name x p) (e :: es) [] pos) (TEv C (mFn n f m)) := by
  subst hn
  obtain ⟨a, fd, g, FD, bd, ok⟩ := F.ex
  rw [← hK] at FD bd ok
  have hs' := hs
  rw [List.all_cons, Bool.and_eq_true] at hs'
  refine PEimp (pe_call ok hr hg g FD.kp bd .nil (pass0 (X := X)) ha hdb (star_no hs'.1) (back_no hs'.2)) fun σ H Q ⟨W, s, c, R, kk⟩ => ⟨W, s, c, R, (KontA.bind kk).thn fun vs H1 ⟨W1, s1, c1, ods, l, R1, q1, k1⟩ => ?_⟩
  obtain ⟨hl, k2⟩ := ifK k1
  cases e1 : valsOf ods with
  | none => rw [e1] at k2; exact k2.elim
  | some ds =>
    rw [e1] at k2
    rw [List.append_nil, ← hl, q1.len]
    exact kFn_of R1 (q1.vals e1) k2
theorem ve_fn0 {n : Nat} (F : Fn X.prog X.w X.mg X.base C.G k x st ps f) (hK : X.K = C.G.K) (hr : Room k X.A) (hg : Gl X x) (hn : ps.length = n := by rfl) (hdb : (x == ("__debug__" : Str)) = false := by decide) :
    PE X (.Call (.Name x p) [] [] pos) (TEv C (mFn n f aNil)) := by
  subst hn
  obtain ⟨a, fd, g, FD, bd, ok⟩ := F.ex
  rw [← hK] at FD bd ok
  refine PEimp (pe_call0 ok hr hg g FD.kp bd .nil (pass0 (X := X)) hdb) fun σ H Q ⟨W, s, c, R, kk⟩ => ?_
  obtain ⟨hl, k2⟩ := ifK (show Kont C σ W (if ([] : List Od).length = ps.length then kFn f (valsOf []) s c else .bad) Q from kk)
  show spEv C.G ps.length f ([] ++ []) H Q E0
  rw [← hl]
  exact kFn_of R .nil k2
end

/-! ### isinstance of built-in types -/
inductive Ty where
  | non | bool | int | str | list | tuple | dict
  deriving DecidableEq
def Ty.nm : Ty → String
  | .non => "NoneType" | .bool => "bool" | .int => "int" | .str => "str" | .list => "list" | .tuple => "tuple" | .dict => "dict"
def tyIs : Ty → Ty → Bool
  | .non, .non => true | .bool, .bool => true | .bool, .int => true | .int, .int => true | .str, .str => true | .list, .list => true | .tuple, .tuple => true | .dict, .dict => true
  | _, _ => false
theorem kit_is (a b : Ty) : kitB a.nm b.nm = some (tyIs a b) := by
  cases a <;> cases b <;> decide +kernel
def dTy : D → Option Ty
  | .non => some .non | .bool _ => some .bool | .int _ => some .int | .str _ => some .str | .lst _ => some .list | .rol _ => some .list | .tup _ => some .tuple | .dct _ => some .dict | .dtt _ => some .dict
  | _ => none
theorem ty_of {C : Cg} {W : Wd} {s : SL} {c : CL} {σ : St} {H : Hp} {d : D} {v : V} {t : Ty} (R : Rel C W s c σ H) (r : Rb C W H d v) (h : dTy d = some t) : TyX C.G.K H v (.type t.nm) := by
  cases d <;> first | (cases h; done) | skip
  · cases h; cases r.non; exact .base .non
  · cases h; cases r.bool; exact .base (.bl _)
  · cases h; cases r.int; exact .base (.int _)
  · cases h; cases r.str; exact .base (.str _)
  · cases h
    obtain ⟨a, vs, rfl, h, _⟩ := r.rol R
    rcases h with (h | ⟨o, h⟩) | ⟨o, its, n, e, hc, _⟩
    · exact .base (.lst h)
    · exact .base (.frz h)
    · exact .kList e hc
  · cases h
    obtain ⟨a, vs, rfl, h, _⟩ := r.lst R
    exact .base (.lst h)
  · cases h
    obtain ⟨a, vs, rfl, h, _⟩ := r.tup R
    rcases h with (h | ⟨o, h⟩) | ⟨o, its, n, e, hc, _⟩
    · exact .base (.tup h)
    · exact .fTuple h
    · exact .kTuple e hc
  · cases h
    rcases r with r | ⟨a, o, rfl, e, ob⟩
    · cases r with
      | dct h q => exact .base (.dK (R.sub _ _ h))
    · obtain ⟨kvs, rfl, _⟩ := ob
      exact .base (.dK e)
  · cases h
    rcases r with r | ⟨a, o, rfl, e, ob⟩
    · cases r with
      | dtt h q => exact .base (.dT (R.sub _ _ h))
    · obtain ⟨kvs, rfl, _⟩ := ob
      exact .base (.dT e)
def dIsi (T : Ty) (d : D) : DB := (dTy d).bind fun t => fl (.bool (tyIs t T))
def dIsiT (Ts : List Ty) (d : D) : DB := (dTy d).bind fun t => fl (.bool (Ts.any (tyIs t)))
theorem kitAny_is (K : PySem.W.Frag) (t : Ty) : ∀ Ts : List Ty, PySem.W.kitAny K (.type t.nm) (Ts.map fun T => Value.type T.nm) = some (Ts.any (tyIs t))
  | [] => rfl
  | T :: Ts => by
    refine kitAny_cons (b := tyIs t T) (kit_ty (kit_is t T)) (fun h => ?_) fun h => ?_
    · rw [kitAny_is K t Ts, List.any_cons, h]
      rfl
    · rw [List.any_cons, h]
      rfl
section
variable {X : Cx} {C : Cg} {e : Expr} {x : Str} {T : Ty} {Ts : List Ty} {p q pos tp : Pos} {m : MO} {es : List Expr} {kt}
/-- the name of a built-in type -/
theorem pe_ty (hg : Gl X x) (hm : X.mg x = none) (hv : bootBuiltins x = some (.type T.nm)) (hn : x ≠ "__name__" := by decide) (hdb : (x == ("__debug__" : Str)) = false := by decide) : PE X (.Name x q) (tC (.ty T.nm)) :=
  ⟨fun pins s σ H Q I h => ld_blt I hg hm hv ⟨.ty T.nm, H, I, rfl, h⟩ hn hdb⟩
theorem ve_isi (hK : X.K = C.G.K) (hg : Gl X "isinstance") (hm : X.mg "isinstance" = none) (he : PE X e (TOv C m)) (hs : noStar e = true) (ht : PE X (.Name x q) (tC (.ty T.nm))) :
    PE X (.Call (.Name "isinstance" p) [e, .Name x q] [] pos) (TEv C (m1 (dIsi T) m)) :=
  PEimp (pe_callB call_isi hg hm (by decide +kernel) (pa_cons he (pa_cons ht pa_nil) (star_no hs)) (by decide) (by decide) (star_no hs) rfl) fun σ H Q h => by
    rw [hK]
    exact t1_of (r := fun v H Q => rIsi C.G.K [v, .ty T.nm] H Q) (fun W s c σ H d v z b Q R a h k => by
      unfold dIsi at h
      cases e : dTy d with
      | none => rw [e] at h; cases h
      | some t =>
        rw [e] at h
        obtain ⟨rfl, rfl⟩ := some_fl h
        exact ⟨v, _, _, _, _, rfl, .ty _, ty_of R a e, kit_ty (kit_is t T), k W _ H (.refl W) R (.fz (.bool _))⟩) h
/-- the names of built-in types, as a written tuple -/
inductive TyNs (X : Cx) : List Expr → List Ty → Prop where
  | nil : TyNs X [] []
  | cons {x : Str} {q : Pos} {T : Ty} {es : List Expr} {Ts : List Ty} : PE X (.Name x q) (tC (.ty T.nm)) → TyNs X es Ts → TyNs X (.Name x q :: es) (T :: Ts)
def tTys (Ts : List Ty) : TA := fun σ H Q => Q (Ts.map fun T => V.ty T.nm) H
theorem TyNs.pa {X : Cx} {es : List Expr} {Ts : List Ty} (h : TyNs X es Ts) : PA X es (tTys Ts) := by
  induction h with
  | nil => exact pa_nil
  | cons a t ih => exact PAimp (pa_cons a ih) fun σ H Q h => h
theorem clsV : ∀ Ts : List Ty, Paired ClsV (Ts.map fun T => V.ty T.nm) (Ts.map fun T => Value.type T.nm)
  | [] => .nil
  | T :: Ts => .cons (.ty _) (clsV Ts)
theorem ve_isiT (hK : X.K = C.G.K) (hg : Gl X "isinstance") (hm : X.mg "isinstance" = none) (he : PE X e (TOv C m)) (hs : noStar e = true) (ht : TyNs X es Ts) (hl : Ts.length ≤ 100) :
    PE X (.Call (.Name "isinstance" p) [e, .Tuple es kt tp] [] pos) (TEv C (m1 (dIsiT Ts) m)) :=
  PEimp (pe_callB call_isiT hg hm (by decide +kernel) (pa_cons he (pa_cons (pe_tup ht.pa) pa_nil) (star_no hs)) (by decide) (by decide) (star_no hs) rfl) fun σ H Q h => by
    rw [hK]
    exact t1_of (r := fun v H Q => (Ts.map fun T => V.ty T.nm).length ≤ sizeLine ∧ ∀ p, H p = none → rIsiT C.G.K [v, .ref p] (upd H p (.tup (Ts.map fun T => V.ty T.nm))) Q) (fun W s c σ H d v z b Q R a h k => by
      unfold dIsiT at h
      cases e : dTy d with
      | none => rw [e] at h; cases h
      | some t =>
        rw [e] at h
        obtain ⟨rfl, rfl⟩ := some_fl h
        refine ⟨by rw [List.length_map]; have : sizeLine = 16777216 := sizeLine_eq; omega, fun p hp => ?_⟩
        have R' := R.laid (o := .tup (Ts.map fun T => V.ty T.nm)) hp
        have a' : Rb C W (upd H p (.tup (Ts.map fun T => V.ty T.nm))) d v := by
          rcases a with a | ⟨b, o, e1, e2, e3⟩
          · exact .inl a
          · exact .inr ⟨b, o, e1, by rw [upd_ne (ne_of_none e2 hp)]; exact e2, e3⟩
        exact ⟨v, p, _, _, _, _, rfl, upd_same, clsV Ts, ty_of R' a' e, kitAny_is _ t Ts, k W _ _ (.refl W) R' (.fz (.bool _))⟩) h
end
end EV

set_option Elab.async false
set_option linter.all false
set_option maxRecDepth 100000
/-! EV 13: calls with keywords -/
namespace EV
open PySem PySem.Spec L2
open PyProof.Rows hiding St

def pick {α : Type} : List Nat → List α → List α
  | [], _ => []
  | i :: p, l => match l[i]? with
    | some x => x :: pick p l
    | none => pick p l
theorem pick_vals {xs : List V} {us : List Value} (h : Vals xs us) : ∀ p : List Nat, Vals (pick p xs) (pick p us)
  | [] => .nil
  | i :: p => by
    unfold pick
    cases e : xs[i]? with
    | none =>
      rw [h.none_of e]
      exact pick_vals h p
    | some v =>
      obtain ⟨u, e1, r⟩ := h.get e
      rw [e1]
      exact .cons r (pick_vals h p)
theorem pick_rps {G : Gp} {W : Wd} {xs : List D} {us : List V} (h : Rps G W xs us) : ∀ p : List Nat, Rps G W (pick p xs) (pick p us)
  | [] => .nil
  | i :: p => by
    unfold pick
    cases e : xs[i]? with
    | none =>
      have h1 := h.len
      have h2 : xs.length ≤ i := List.getElem?_eq_none_iff.mp e
      rw [List.getElem?_eq_none_iff.mpr (by omega)]
      exact pick_rps h p
    | some v =>
      obtain ⟨u, e1, r⟩ := h.at_ e
      rw [e1]
      exact .cons r (pick_rps h p)
theorem PKimp {X : Cx} {es : List Keyword} {t t' : TA} (h : PK X es t) (i : ∀ σ H Q, t' σ H Q → t σ H Q) : PK X es t' := ⟨fun pos pins s σ H Q I q => h.run pos pins s σ H Q I (i σ H Q q)⟩
section
variable {X : Cx} {C : Cg} {e : Expr} {kws : List Keyword} {mo : MO} {ma : MA} {nm : Option Str} {kpos : Pos}
theorem vk_nil : PK X [] (TAv C aNil) := PKimp pk_nil fun σ H Q ⟨W, s, c, R, k⟩ => k W [] H (.refl W) R .nil
theorem vk_cons (he : PE X e (TOv C mo)) (ha : PK X kws (TAv C ma)) : PK X (⟨nm, e, kpos⟩ :: kws) (TAv C (aCons mo ma)) := PKimp (pk_cons he ha) fun σ H Q ⟨W, s, c, R, k⟩ =>
  ⟨W, s, c, R, (KontO.bindA k).thn fun v H1 ⟨W1, s1, c1, od, l1, R1, q1, k1⟩ =>
    ⟨W1, s1, c1, R1, (KontA.bindA k1).thn fun vs H2 ⟨W2, s2, c2, ods, l2, R2, q2, k2⟩ => k2 W2 _ H2 (.refl W2) R2 (.cons (q1.mono l2) q2)⟩⟩
end
def kFnK (n m : Nat) (p : List Nat) (f : FM) (o1 o2 : List Od) : ME := fun s c => if o1.length = n ∧ o2.length = m then kFn f (match valsOf o1, valsOf o2 with
  | some ds, some es => some (pick p (ds ++ es))
  | _, _ => none) s c else .bad
/-- np positional arguments, m keywords, then put in the parameters' order by p -/
def mFnK (np m : Nat) (p : List Nat) (f : FM) (ma mk : MA) : ME := fun s c => (ma s c).bind fun o1 s c => (mk s c).bind fun o2 s c => kFnK np m p f o1 o2 s c
/-- how the keywords bind -/
def KwB (x : Str) (st : Stmt) (ps : List Str) (n : Nat) (ks : List Str) (p : List Nat) : Prop := ∀ (kV doc pm : Value) (an : Option Addr) (cdv ct : Value) (us ws : List Value), us.length = n → ws.length = ks.length →
  bindArgs (PySem.W.fnOf x x (defArgs st) (defBody st) (defScope st) .none kV doc pm an cdv ct) ⟨us, ks.zip ws⟩ = pure (ps.zip (pick p (us ++ ws)))
theorem FunD.kbn {K : PySem.W.Frag} {x : Str} {st : Stmt} {f : Addr} {fd : FuncData} {ps ks : List Str} {n : Nat} {p : List Nat} (F : FunD K x x (defArgs st) (defBody st) (defScope st) [] [] f fd) (h : KwB x st ps n ks p) :
    KBn K fd ps n ks (fun us ws => pick p (us ++ ws)) (fun us ws => pick p (us ++ ws)) := by
  obtain ⟨oc, od, dV, kV, doc, pm, an, cdv, ct, osl, rfl, lk, hcd, hD, hK⟩ := F.ex
  rcases hD with ⟨_, rfl⟩ | ⟨e, _⟩
  · exact ⟨fun s us ws _ l1 l2 => .of_eq (h kV doc pm an cdv ct us ws l1 l2), fun a b => pick_vals (a.append b) p⟩
  · exact absurd rfl e
section
variable {X : Cx} {C : Cg} {k n : Nat} {x : Str} {st : Stmt} {ps ks : List Str} {f : FM} {e : Expr} {es : List Expr} {kws : List Keyword} {p pos : Pos} {m mk : MA} {pm : List Nat}
theorem kFnK_of {W : Wd} {s : SL} {c : CL} {σ : St} {H : Hp} {o1 o2 : List Od} {vs zs : List V} {Q : VK} {nn mm N : Nat} (hN : ∀ (a b : List V), a.length = nn → b.length = mm → (pick pm (a ++ b)).length = N) (R : Rel C W s c σ H) (q1 : OdRs C W σ o1 vs) (q2 : OdRs C W σ o2 zs)
    (kk : Kont C σ W (kFnK nn mm pm f o1 o2 s c) Q) : vs.length = nn ∧ zs.length = mm ∧ spEv C.G N f (pick pm (vs ++ zs)) H Q E0 := by
  obtain ⟨⟨h1, h2⟩, k2⟩ := ifK kk
  have e1 : vs.length = nn := by rw [← q1.len]; exact h1
  have e2 : zs.length = mm := by rw [← q2.len]; exact h2
  refine ⟨e1, e2, ?_⟩
  cases v1 : valsOf o1 with
  | none => rw [v1] at k2; exact k2.elim
  | some ds =>
    cases v2 : valsOf o2 with
    | none => rw [v1, v2] at k2; exact k2.elim
    | some fs =>
      rw [v1, v2] at k2
      have r := pick_rps ((q1.vals v1).append (q2.vals v2)) pm
      rw [← hN vs zs e1 e2]
      exact kFn_of R r k2
theorem ve_fnK {mm : Nat} (F : Fn X.prog X.w X.mg X.base C.G k x st ps f) (hK : X.K = C.G.K) (hr : Room k X.A) (hg : Gl X x) (hb : KwB x st ps n ks pm) (hN : ∀ (a b : List V), a.length = n → b.length = ks.length → (pick pm (a ++ b)).length = ps.length)
    (ha : PA X (e :: es) (TAv C m)) (hkw : PK X kws (TAv C mk)) (hs : (e :: es).all noStar = true) (hall : (backToKw pos (keywordEach kws X.env)).all (·.1.isSome) = true := by rfl) (hks : (backToKw pos (keywordEach kws X.env)).filterMap (·.1) = ks := by rfl)
    (hpl : ((backTo pos (starEach (e :: es) X.env)).any (·.1) || (backToKw pos (keywordEach kws X.env)).any (·.1.isNone)) = false := by rfl) (hmm : ks.length = mm := by rfl) (hdb : (x == ("__debug__" : Str)) = false := by decide) :
    PE X (.Call (.Name x p) (e :: es) kws pos) (TEv C (mFnK n mm pm f m mk)) := by
  subst hmm
  obtain ⟨a, fd, g, FD, _, ok⟩ := F.ex
  rw [← hK] at FD ok
  have hs' := hs
  rw [List.all_cons, Bool.and_eq_true] at hs'
  exact PEimp (pe_callN ok hr hg g FD.kp (FunD.kbn FD hb) (pass0 (X := X)) ha hkw hall hks hdb (star_no hs'.1) hpl) fun σ H Q ⟨W, s, c, R, kk⟩ => ⟨W, s, c, R, (KontA.bind kk).thn fun vs H1 ⟨W1, s1, c1, ods, l, R1, q1, k1⟩ =>
    ⟨W1, s1, c1, R1, (KontA.bind k1).thn fun zs H2 ⟨W2, s2, c2, ods2, l2, R2, q2, k2⟩ => kFnK_of hN R2 (q1.mono l2) q2 k2⟩⟩
/-- only keywords -/
theorem ve_fnK0 {mm : Nat} (F : Fn X.prog X.w X.mg X.base C.G k x st ps f) (hK : X.K = C.G.K) (hr : Room k X.A) (hg : Gl X x) (hb : KwB x st ps 0 ks pm) (hN : ∀ (a b : List V), a.length = 0 → b.length = ks.length → (pick pm (a ++ b)).length = ps.length)
    (hkw : PK X kws (TAv C mk)) (hall : (backToKw pos (keywordEach kws X.env)).all (·.1.isSome) = true := by rfl) (hks : (backToKw pos (keywordEach kws X.env)).filterMap (·.1) = ks := by rfl)
    (hpl : ((backTo pos (starEach [] X.env)).any (·.1) || (backToKw pos (keywordEach kws X.env)).any (·.1.isNone)) = false := by rfl) (hmm : ks.length = mm := by rfl) (hdb : (x == ("__debug__" : Str)) = false := by decide) :
    PE X (.Call (.Name x p) [] kws pos) (TEv C (mFnK 0 mm pm f aNil mk)) := by
  subst hmm
  obtain ⟨a, fd, g, FD, _, ok⟩ := F.ex
  rw [← hK] at FD ok
  refine ⟨fun pins s0 σ H Q I ⟨W, s, c, R, kk⟩ => ?_⟩
  refine wpAny_Call_Name_kw (ld_glob I hg g ?_ hdb)
  refine PySem.W.callWith_KW0 (h₀ := X.base) I.ok.mod.kin FD.kp hall (thn (hkw.run pos pins s0 σ H _ I ⟨W, s, c, R, (KontA.bind (k := fun o2 s c => kFnK 0 ks.length pm f [] o2 s c) kk)⟩) fun ws s2 ⟨zs, H2, I2, rz, W1, s1, c1, ods, l, R1, q1, k1⟩ => ⟨I2.kIn, ?_⟩) hpl
  rw [hks]
  obtain ⟨l1, l2, q⟩ := kFnK_of hN R1 .nil q1 k1
  exact run_fnN (us := []) (vs := []) ok hr (FunD.kbn FD hb) (pass0 (X := X)) I2 .nil rz l1 l2 q
end
end EV

set_option Elab.async false
set_option linter.all false
set_option maxRecDepth 100000
/-! EV S: a set of texts, its size (the road of the library's sets of ints, taken with texts) -/
namespace EV
open PySem PySem.Spec
open PyProof.Rows hiding St
def stS (l : List Str) (x : Str) : List Str := if l.any (· == x) = true then l else l ++ [x]
def fmS (f : Nat → Str) (i : Nat) : List Str := ((List.range i).map f).foldl stS []
theorem fmS_s (f : Nat → Str) (i : Nat) : fmS f (i + 1) = stS (fmS f i) (f i) := by
  unfold fmS
  rw [List.range_succ, List.map_append, List.foldl_append]
  rfl
theorem fmS_le (f : Nat → Str) : ∀ i, (fmS f i).length ≤ i
  | 0 => Nat.le_refl _
  | i + 1 => by
    have ih := fmS_le f i
    rw [fmS_s]
    unfold stS
    split
    · omega
    · rw [List.length_append]
      simp only [List.length_cons, List.length_nil]
      omega
theorem stS_any (l : List Str) (x q : Str) : (stS l x).any (· == q) = (l.any (· == q) || decide (q = x)) := by
  unfold stS
  by_cases h : l.any (· == x) = true
  · rw [if_pos h]
    by_cases e : q = x
    · subst e
      simp [h]
    · simp [e]
  · rw [if_neg h, List.any_append]
    by_cases e : q = x
    · subst e
      simp
    · have hb : (x == q) = false := by
        rw [beq_eq_false_iff_ne]
        exact fun z => e z.symm
      simp [hb, e]
theorem stS_len (l : List Str) (x : Str) : (stS l x).length = if l.any (· == x) then l.length else l.length + 1 := by
  unfold stS
  split <;> simp
section
variable {prog : Program} {w : World} {A : Around} {R : Result → Shared → Prop} {I : Addr} {fp wr : List Addr} {G : Array GenState → Array GenState → Prop} {n : Nat} {P : Nat → Value → Prop} {Tn : Nat → Shared → Prop}
/-- the texts that an iterator hands on, put into the set at D -/
theorem setLoop (Wk : WalksS prog w A.in1 I fp wr G n P Tn) (D : Addr) (hD : D ∉ fp) (f : Nat → Str) (hf : ∀ i v, P i v → ∃ t, v = .str (f i) t) (hn : n + 1 < scanBound) : ∀ (m i : Nat) (s1 : Shared), n - i = m → i ≤ n → Tn i s1 →
    s1.heap.SetOf (PySem.strKind prog w) D (fun q => (fmS f i).any (· == q)) (fmS f i).length →
    (∀ s2, Moved (D :: wr) G s1 s2 → s2.heap.SetOf (PySem.strKind prog w) D (fun q => (fmS f n).any (· == q)) (fmS f n).length → R (.ok (.ret .none)) s2) →
    codeAny (model prog w) A (.builtin "set.update.loop" ⟨[.ref D, .ref I], []⟩) R s1 := by
  have dW : D ∉ wr := fun z => hD (Wk.sub _ z)
  have sub : ∀ b ∈ wr, b ∈ D :: wr := fun b hb => .tail _ hb
  intro m
  induction m with
  | zero =>
    intro i s1 hm hi h1 hS hR
    obtain rfl : i = n := by omega
    refine codeAny_builtin PyProof.Rows.F.entry_set_update_loop ?_
    rw [(Around.under_plainId PyProof.Rows.F.plain_set_update_loop _)]
    show wpAny (model prog w) A.in1 (pyNext (.ref I) >>= _) _ _ s1
    refine wpAny_bind (Wk.done s1 _ _ h1 fun s2 mv => ?_)
    show wpAny (model prog w) A.in1 (ret Value.none) _ _ s2
    refine wpAny_pure (hR s2 (mv.mono sub) ?_)
    obtain ⟨o1, e1, p1, t1, g1, r1⟩ := hS
    exact ⟨o1, e1, p1, t1, mv.heap D _ dW g1, r1⟩
  | succ m ih =>
    intro i s1 hm hi h1 hS hR
    have lt : i < n := by omega
    refine codeAny_builtin PyProof.Rows.F.entry_set_update_loop ?_
    rw [(Around.under_plainId PyProof.Rows.F.plain_set_update_loop _)]
    show wpAny (model prog w) A.in1 (pyNext (.ref I) >>= _) _ _ s1
    refine wpAny_bind (Wk.item i s1 _ _ lt h1 fun v s2 hv h2 mv => ?_)
    obtain ⟨tk, rfl⟩ := hf i v hv
    have S2 : s2.heap.SetOf (PySem.strKind prog w) D (fun q => (fmS f i).any (· == q)) (fmS f i).length := by
      obtain ⟨o1, e1, p1, t1, g1, r1⟩ := hS
      exact ⟨o1, e1, p1, t1, mv.heap D _ dW g1, r1⟩
    show wpAny (model prog w) A.in1 (holding [Value.str (f i) tk] (setAdd D (.str (f i) tk)) >>= _) _ _ s2
    refine wpAny_bind (wpAny_holding ?_)
    unfold setAdd
    refine wpAny_holding (wpAny_bind ((PySem.strKind prog w).pyHash (k := f i) (strKind_is _ _ _ _) ?_))
    have room : (fmS f i).length + 1 < scanBound := by have := fmS_le f i; omega
    refine wpAny_setAddHashed_of (knd := PySem.strKind prog w) (s := { s2 with toks := s2.toks + 1 }) (strKind_is _ _ _ _) rfl S2 room fun h3 sb S3 => ?_
    have S4 : h3.SetOf (PySem.strKind prog w) D (fun q => (fmS f (i + 1)).any (· == q)) (fmS f (i + 1)).length :=
      PyProof.Rows.SetOf_congr S3 (fun q => by rw [fmS_s, stS_any]) (by rw [fmS_s, stS_len])
    refine wpAny_pure ⟨plainId_quiet PyProof.Rows.F.plain_set_update_loop _, ih (i + 1) _ (by omega) lt (Wk.frame _ s2 _ _ h2 (Nat.le_succ _) fun b hb o e => ?_) S4 fun s3 mv3 S5 => ?_⟩
    · have ne : b ≠ D := fun z => hD (z ▸ hb)
      rw [sb.2 b ne]
      exact e
    · refine hR s3 (Moved.trans Wk.gtrans ((mv.mono sub).then_heap (Nat.le_succ _) fun b o hb e => ?_) mv3) S5
      have ne : b ≠ D := fun z => hb (z ▸ .head _)
      rw [sb.2 b ne]
      exact e
end
section
variable {prog : Program} {w : World} {A : Around} {E : Value → Shared → Prop} {s : Shared}
set_option maxHeartbeats 3200000 in
theorem set_list {p : Addr} {us : Array Value} {ys : List Str} {Q : Value → Shared → Prop} (h0 : A.handled = none) (pl : s.heap.IsList p us) (st : PyProof.Rows.StrsAre us.toList ys) (ln : ys.length < 4000)
    (fin : ∀ (h2 : Heap) (tk : Nat), h2.SetOf (PySem.strKind prog w) s.heap.objs.size (fun q => (fmS (fun i => ys.getD i Str.empty) us.size).any (· == q)) (fmS (fun i => ys.getD i Str.empty) us.size).length →
      (∀ b o, b < s.heap.objs.size → s.heap.get? b = some o → h2.get? b = some o) → Q (.ref s.heap.objs.size) { s with heap := h2, toks := tk }) : wpAny (model prog w) A (call (.type "set") [.ref p]) Q E s := by
  obtain ⟨cc, tt, hmro⟩ := PySem.F.called_set.mro
  have hmd := PySem.F.called_set.made
  have hsb := PySem.F.called_set.sub
  refine wpAny_call (codeAny_of_tree ?_)
  show wpAny _ _ (callAny (.type "set") _) _ _ s
  refine wpAny_pure ⟨Code.quiet_builtin _ (by decide +kernel), (codeAny_builtin PySem.F.entry_type_call ?_)⟩
  rw [Around.under_plain (weight_type_call_type "set" [.ref p] []) rfl]
  have k1 := PySem.F.called_set.notType
  have k2 := PySem.F.called_set.canCreate
  have k3 := PySem.F.typeCall_set_1 (.ref p)
  repeat any_goals first | assumption | wp_step
  refine codeAny_mono (code_set_new_1 (.ref p) (E := E) (Q₁ := fun ob s2 => ∃ e : Bool, ob = .ref s.heap.objs.size ∧ s2 = { s with heap := s.heap.push { cls := .type "set", dict := none, data := .set #[] 0 (.fresh 0 0 e) } }) fun e => ⟨e, rfl, rfl⟩) fun r s2 hr => ?_
  cases r with
  | error e => exact hr
  | ok fl =>
    cases fl with
    | ret ob =>
      obtain ⟨e, rfl, rfl⟩ := hr
      have gS : (s.heap.push { cls := .type "set", dict := none, data := .set #[] 0 (.fresh 0 0 e) }).get? s.heap.objs.size = some { cls := .type "set", dict := none, data := .set #[] 0 (.fresh 0 0 e) } := Heap.get?_push_size _ rfl
      have tS : Shared.TypeIs { s with heap := s.heap.push { cls := .type "set", dict := none, data := .set #[] 0 (.fresh 0 0 e) } } (.ref s.heap.objs.size) "set" := ⟨_, gS, rfl⟩
      have k4 := PySem.F.called_set.init.lookup
      have k5 := PySem.F.called_set.init.bind (.ref s.heap.objs.size)
      repeat any_goals first | assumption | wp_step
      refine codeAny_mono (codeAny_call_builtin (R := wants (fun r s3 => r = .none ∧ ∃ h2 tk, s3 = { s with heap := h2, toks := tk } ∧
          h2.SetOf (PySem.strKind prog w) s.heap.objs.size (fun q => (fmS (fun i => ys.getD i Str.empty) us.size).any (· == q)) (fmS (fun i => ys.getD i Str.empty) us.size).length ∧
          (∀ b o, b < s.heap.objs.size → s.heap.get? b = some o → h2.get? b = some o)) E) PySem.F.called_set.init.plain PySem.F.entry_set_init (check_set_init_1 tS ?_)) fun r3 s3 hr3 => ?_
      · obtain ⟨o1, g1, c1, n1, d1⟩ := pl
        obtain ⟨ocl, odc, oda, osl⟩ := o1
        simp only at c1 d1
        subst c1 d1
        have g2 : (s.heap.push { cls := .type "set", dict := none, data := .set #[] 0 (.fresh 0 0 e) }).get? p = some { cls := .type "list", dict := odc, data := .seq us n1, slots := osl } := Heap.get?_push_of_some _ g1
        have k6 := PySem.F.sub_list_set
        have k7 := PySem.F.sub_list_frozenset
        have k8 : (Value.type "list" == Value.type "dict") = false := by decide
        have pl1 : (s.heap.push { cls := .type "set", dict := none, data := .set #[] 0 (.fresh 0 0 e) }).IsList p us := ⟨_, g2, rfl, n1, rfl⟩
        unfold Builtin.«set.__init__» noKeywords
        unfold Builtin.Frozenset.updateFrom
        generalize hIt : pyIter = IT
        wp_walk
        subst hIt
        refine wpAny_pyIter_list pl1 (wpAny_bind (wpAny_runValue ?_))
        have lt : p < s.heap.objs.size := Heap.lt_size g1
        have h3 : A.in1.in1.in1.handled = none := by simp [h0]
        have sz : (s.heap.push { cls := .type "set", dict := none, data := .set #[] 0 (.fresh 0 0 e) }).objs.size = s.heap.objs.size + 1 := Heap.size_push ..
        have ne1 : p ≠ (s.heap.push { cls := .type "set", dict := none, data := .set #[] 0 (.fresh 0 0 e) }).objs.size := by
          rw [sz]
          exact Nat.ne_of_lt (Nat.lt_succ_of_lt lt)
        have nf : s.heap.objs.size ∉ [(s.heap.push { cls := .type "set", dict := none, data := .set #[] 0 (.fresh 0 0 e) }).objs.size, p] := fun z => by
          rw [sz] at z
          rcases List.mem_cons.mp z with z | z
          · exact absurd z (Nat.ne_of_lt (Nat.lt_succ_self _))
          · exact absurd (show s.heap.objs.size = p by simpa using z) (Nat.ne_of_gt lt)
        have ls : ys.length = us.size := by rw [← StrsAre.len_eq st, Array.length_toList]
        refine setLoop ((Walks.list h3 _ p ne1 us).toS) s.heap.objs.size nf (fun i => ys.getD i Str.empty) (fun i v hv => SS.strs_at st i v (by rw [Array.getElem?_toList]; exact hv)) (by rw [← ls]; unfold scanBound; omega) (us.size - 0) 0 _ (by omega) (Nat.zero_le _)
          ⟨⟨_, Heap.get?_push_size _ rfl, rfl, rfl⟩, (pl1.push _)⟩ ?start ?done
        case start =>
          have g3 : ((s.heap.push { cls := .type "set", dict := none, data := .set #[] 0 (.fresh 0 0 e) }).push { cls := .type "list_iterator", data := .fields #[.ref p, .int 0 0] }).get? s.heap.objs.size = some { cls := .type "set", dict := none, data := .set #[] 0 (.fresh 0 0 e) } := Heap.get?_push_of_some _ gS
          exact PyProof.Rows.SetOf_congr ((PyProof.Rows.setObjOf_fresh (knd := PySem.strKind prog w) e).setOf g3 (by unfold scanBound; omega)) (fun _ => rfl) rfl
        case done =>
          intro s4 mv S4
          obtain ⟨h4, g4, d4, t4, x4⟩ := s4
          obtain rfl : g4 = s.gens := mv.gens
          obtain rfl : d4 = s.drawn := mv.drawn
          obtain rfl : x4 = s.os := mv.os
          show wpAny (model prog w) _ _ _ _ _
          refine wpAny_pure ?_
          show wpAny _ _ (ret Value.none) _ _ _
          refine wpAny_pure ⟨rfl, h4, t4, rfl, S4, fun b o hb g => ?_⟩
          refine mv.heap b o (fun z => ?_) (Heap.get?_push_of_some _ (Heap.get?_push_of_some _ g))
          rcases List.mem_cons.mp z with z | z
          · exact absurd z (Nat.ne_of_lt hb)
          · have : b = (s.heap.push { cls := .type "set", dict := none, data := .set #[] 0 (.fresh 0 0 e) }).objs.size := by simpa using z
            rw [sz] at this
            exact absurd this (Nat.ne_of_lt (Nat.lt_succ_of_lt hb))
      · cases r3 with
        | error e => exact hr3
        | ok fl3 =>
          cases fl3 with
          | ret r =>
            obtain ⟨rfl, h2, tk, rfl, S2, kp⟩ := hr3
            repeat any_goals first | assumption | wp_step
            exact fin _ _ S2 kp
          | _ => exact hr3.elim
    | _ => exact hr.elim
set_option maxHeartbeats 3200000 in
theorem set_tuple {p : Addr} {us : Array Value} {ys : List Str} {Q : Value → Shared → Prop} (h0 : A.handled = none) (pl : s.heap.IsTuple p us) (st : PyProof.Rows.StrsAre us.toList ys) (ln : ys.length < 4000)
    (fin : ∀ (h2 : Heap) (tk : Nat), h2.SetOf (PySem.strKind prog w) s.heap.objs.size (fun q => (fmS (fun i => ys.getD i Str.empty) us.size).any (· == q)) (fmS (fun i => ys.getD i Str.empty) us.size).length →
      (∀ b o, b < s.heap.objs.size → s.heap.get? b = some o → h2.get? b = some o) → Q (.ref s.heap.objs.size) { s with heap := h2, toks := tk }) : wpAny (model prog w) A (call (.type "set") [.ref p]) Q E s := by
  obtain ⟨cc, tt, hmro⟩ := PySem.F.called_set.mro
  have hmd := PySem.F.called_set.made
  have hsb := PySem.F.called_set.sub
  refine wpAny_call (codeAny_of_tree ?_)
  show wpAny _ _ (callAny (.type "set") _) _ _ s
  refine wpAny_pure ⟨Code.quiet_builtin _ (by decide +kernel), (codeAny_builtin PySem.F.entry_type_call ?_)⟩
  rw [Around.under_plain (weight_type_call_type "set" [.ref p] []) rfl]
  have k1 := PySem.F.called_set.notType
  have k2 := PySem.F.called_set.canCreate
  have k3 := PySem.F.typeCall_set_1 (.ref p)
  repeat any_goals first | assumption | wp_step
  refine codeAny_mono (code_set_new_1 (.ref p) (E := E) (Q₁ := fun ob s2 => ∃ e : Bool, ob = .ref s.heap.objs.size ∧ s2 = { s with heap := s.heap.push { cls := .type "set", dict := none, data := .set #[] 0 (.fresh 0 0 e) } }) fun e => ⟨e, rfl, rfl⟩) fun r s2 hr => ?_
  cases r with
  | error e => exact hr
  | ok fl =>
    cases fl with
    | ret ob =>
      obtain ⟨e, rfl, rfl⟩ := hr
      have gS : (s.heap.push { cls := .type "set", dict := none, data := .set #[] 0 (.fresh 0 0 e) }).get? s.heap.objs.size = some { cls := .type "set", dict := none, data := .set #[] 0 (.fresh 0 0 e) } := Heap.get?_push_size _ rfl
      have tS : Shared.TypeIs { s with heap := s.heap.push { cls := .type "set", dict := none, data := .set #[] 0 (.fresh 0 0 e) } } (.ref s.heap.objs.size) "set" := ⟨_, gS, rfl⟩
      have k4 := PySem.F.called_set.init.lookup
      have k5 := PySem.F.called_set.init.bind (.ref s.heap.objs.size)
      repeat any_goals first | assumption | wp_step
      refine codeAny_mono (codeAny_call_builtin (R := wants (fun r s3 => r = .none ∧ ∃ h2 tk, s3 = { s with heap := h2, toks := tk } ∧
          h2.SetOf (PySem.strKind prog w) s.heap.objs.size (fun q => (fmS (fun i => ys.getD i Str.empty) us.size).any (· == q)) (fmS (fun i => ys.getD i Str.empty) us.size).length ∧
          (∀ b o, b < s.heap.objs.size → s.heap.get? b = some o → h2.get? b = some o)) E) PySem.F.called_set.init.plain PySem.F.entry_set_init (check_set_init_1 tS ?_)) fun r3 s3 hr3 => ?_
      · obtain ⟨o1, g1, c1, n1, d1⟩ := pl
        obtain ⟨ocl, odc, oda, osl⟩ := o1
        simp only at c1 d1
        subst c1 d1
        have g2 : (s.heap.push { cls := .type "set", dict := none, data := .set #[] 0 (.fresh 0 0 e) }).get? p = some { cls := .type "tuple", dict := odc, data := .seq us n1, slots := osl } := Heap.get?_push_of_some _ g1
        have k6 := PySem.F.sub_tuple_set
        have k7 := PySem.F.sub_tuple_frozenset
        have k8 : (Value.type "tuple" == Value.type "dict") = false := by decide
        have pl1 : (s.heap.push { cls := .type "set", dict := none, data := .set #[] 0 (.fresh 0 0 e) }).IsTuple p us := ⟨_, g2, rfl, n1, rfl⟩
        unfold Builtin.«set.__init__» noKeywords
        unfold Builtin.Frozenset.updateFrom
        generalize hIt : pyIter = IT
        wp_walk
        subst hIt
        refine wpAny_pyIter_tuple pl1 (wpAny_bind (wpAny_runValue ?_))
        have lt : p < s.heap.objs.size := Heap.lt_size g1
        have h3 : A.in1.in1.in1.handled = none := by simp [h0]
        have sz : (s.heap.push { cls := .type "set", dict := none, data := .set #[] 0 (.fresh 0 0 e) }).objs.size = s.heap.objs.size + 1 := Heap.size_push ..
        have ne1 : p ≠ (s.heap.push { cls := .type "set", dict := none, data := .set #[] 0 (.fresh 0 0 e) }).objs.size := by
          rw [sz]
          exact Nat.ne_of_lt (Nat.lt_succ_of_lt lt)
        have nf : s.heap.objs.size ∉ [(s.heap.push { cls := .type "set", dict := none, data := .set #[] 0 (.fresh 0 0 e) }).objs.size, p] := fun z => by
          rw [sz] at z
          rcases List.mem_cons.mp z with z | z
          · exact absurd z (Nat.ne_of_lt (Nat.lt_succ_self _))
          · exact absurd (show s.heap.objs.size = p by simpa using z) (Nat.ne_of_gt lt)
        have ls : ys.length = us.size := by rw [← StrsAre.len_eq st, Array.length_toList]
        refine setLoop ((Walks.tuple h3 _ p ne1 us).toS) s.heap.objs.size nf (fun i => ys.getD i Str.empty) (fun i v hv => SS.strs_at st i v (by rw [Array.getElem?_toList]; exact hv)) (by rw [← ls]; unfold scanBound; omega) (us.size - 0) 0 _ (by omega) (Nat.zero_le _)
          ⟨⟨_, Heap.get?_push_size _ rfl, rfl, rfl⟩, (pl1.push _)⟩ ?start ?done
        case start =>
          have g3 : ((s.heap.push { cls := .type "set", dict := none, data := .set #[] 0 (.fresh 0 0 e) }).push { cls := .type "tuple_iterator", data := .fields #[.ref p, .int 0 0] }).get? s.heap.objs.size = some { cls := .type "set", dict := none, data := .set #[] 0 (.fresh 0 0 e) } := Heap.get?_push_of_some _ gS
          exact PyProof.Rows.SetOf_congr ((PyProof.Rows.setObjOf_fresh (knd := PySem.strKind prog w) e).setOf g3 (by unfold scanBound; omega)) (fun _ => rfl) rfl
        case done =>
          intro s4 mv S4
          obtain ⟨h4, g4, d4, t4, x4⟩ := s4
          obtain rfl : g4 = s.gens := mv.gens
          obtain rfl : d4 = s.drawn := mv.drawn
          obtain rfl : x4 = s.os := mv.os
          show wpAny (model prog w) _ _ _ _ _
          refine wpAny_pure ?_
          show wpAny _ _ (ret Value.none) _ _ _
          refine wpAny_pure ⟨rfl, h4, t4, rfl, S4, fun b o hb g => ?_⟩
          refine mv.heap b o (fun z => ?_) (Heap.get?_push_of_some _ (Heap.get?_push_of_some _ g))
          rcases List.mem_cons.mp z with z | z
          · exact absurd z (Nat.ne_of_lt hb)
          · have : b = (s.heap.push { cls := .type "set", dict := none, data := .set #[] 0 (.fresh 0 0 e) }).objs.size := by simpa using z
            rw [sz] at this
            exact absurd this (Nat.ne_of_lt (Nat.lt_succ_of_lt hb))
      · cases r3 with
        | error e => exact hr3
        | ok fl3 =>
          cases fl3 with
          | ret r =>
            obtain ⟨rfl, h2, tk, rfl, S2, kp⟩ := hr3
            repeat any_goals first | assumption | wp_step
            exact fin _ _ S2 kp
          | _ => exact hr3.elim
    | _ => exact hr.elim
end
/-! the number of the different texts -/
def dedS : List Str → List Str
  | [] => []
  | x :: xs => if x ∈ xs then dedS xs else x :: dedS xs
theorem dedS_mem : ∀ {xs : List Str} {x : Str}, x ∈ dedS xs ↔ x ∈ xs
  | [], x => by simp [dedS]
  | y :: ys, x => by
    unfold dedS
    by_cases e : y ∈ ys
    · rw [if_pos e, dedS_mem (xs := ys), List.mem_cons]
      constructor
      · exact .inr
      · rintro (z | z)
        · rw [z]; exact e
        · exact z
    · rw [if_neg e, List.mem_cons, List.mem_cons, dedS_mem (xs := ys)]
theorem dedS_nd : ∀ xs : List Str, (dedS xs).Nodup
  | [] => by simp [dedS]
  | y :: ys => by
    unfold dedS
    by_cases e : y ∈ ys
    · rw [if_pos e]; exact dedS_nd ys
    · rw [if_neg e]; exact List.nodup_cons.mpr ⟨fun z => e (dedS_mem.mp z), dedS_nd ys⟩
theorem sub_le : ∀ {l m : List Str}, l.Nodup → (∀ x ∈ l, x ∈ m) → l.length ≤ m.length
  | [], _, _, _ => Nat.zero_le _
  | x :: l, m, h, hm => by
    have hx := hm x (List.mem_cons_self ..)
    obtain ⟨h1, h2⟩ := List.nodup_cons.mp h
    have := sub_le (l := l) (m := m.erase x) h2 fun y hy => by
      have ne : y ≠ x := fun e => h1 (by rw [← e]; exact hy)
      exact (List.mem_erase_of_ne ne).mpr (hm y (List.mem_cons_of_mem _ hy))
    have e := List.length_erase_of_mem hx
    have p := List.length_pos_of_mem hx
    simp only [List.length_cons]
    omega
theorem fold_mem : ∀ (ys acc : List Str) (x : Str), x ∈ ys.foldl stS acc ↔ x ∈ acc ∨ x ∈ ys
  | [], acc, x => by simp
  | y :: ys, acc, x => by
    rw [List.foldl_cons, fold_mem ys]
    have : x ∈ stS acc y ↔ x ∈ acc ∨ x = y := by
      unfold stS
      split
      · rename_i h
        obtain ⟨z, h1, h2⟩ := List.any_eq_true.mp h
        have : z = y := by simpa using h2
        subst this
        constructor
        · exact .inl
        · rintro (k | k)
          · exact k
          · rw [k]; exact h1
      · simp
    rw [this, List.mem_cons, or_assoc]
theorem fold_nd : ∀ (ys acc : List Str), acc.Nodup → (ys.foldl stS acc).Nodup
  | [], acc, h => h
  | y :: ys, acc, h => by
    rw [List.foldl_cons]
    refine fold_nd ys _ ?_
    unfold stS
    split
    · exact h
    · rename_i g
      rw [List.nodup_append]
      refine ⟨h, by simp, fun a ha b hb => ?_⟩
      have hb' : b = y := by simpa using hb
      intro e
      rw [e, hb'] at ha
      exact g (List.any_eq_true.mpr ⟨y, ha, by simp⟩)
theorem fm_len (ys : List Str) : (fmS (fun i => ys.getD i Str.empty) ys.length).length = (dedS ys).length := by
  have e : (List.range ys.length).map (fun i => ys.getD i Str.empty) = ys := by
    apply List.ext_getElem?
    intro i
    rw [List.getElem?_map]
    by_cases h : i < ys.length
    · rw [List.getElem?_range h, List.getElem?_eq_getElem h]
      simp [List.getD, List.getElem?_eq_getElem h]
    · rw [List.getElem?_eq_none (by rw [List.length_range]; omega), List.getElem?_eq_none (by omega)]
      rfl
  unfold fmS
  rw [e]
  have a := sub_le (fold_nd ys [] (by simp)) (m := dedS ys) fun x hx => dedS_mem.mpr (((fold_mem ys [] x).mp hx).elim (fun z => by cases z) id)
  have b := sub_le (dedS_nd ys) (m := ys.foldl stS []) fun x hx => (fold_mem ys [] x).mpr (.inr (dedS_mem.mp hx))
  omega
end EV

set_option Elab.async false
set_option linter.all false
set_option maxRecDepth 100000
/-! EV 14: constants of the module, names of built-in things -/
namespace EV
open PySem PySem.Spec L2
open PyProof.Rows hiding St

section
variable {X : Cx} {C : Cg} {x z : Str} {i : Int} {pos : Pos}
theorem ve_gstr (hg : Gl X x) (h : ∃ t, X.mg x = some (.str z t)) (hd : (x == ("__debug__" : Str)) = false := by decide) : PE X (.Name x pos) (TEv C (mCon (.str z))) := by
  obtain ⟨t, h⟩ := h
  exact ve_con (pe_glob (v := .str z) hg h ⟨t, rfl⟩ hd) fun _ _ => .str _
theorem ve_gint (hg : Gl X x) (h : ∃ t, X.mg x = some (.int i t)) (hd : (x == ("__debug__" : Str)) = false := by decide) : PE X (.Name x pos) (TEv C (mCon (.int i))) := by
  obtain ⟨t, h⟩ := h
  exact ve_con (pe_glob (v := .int i) hg h ⟨t, rfl⟩ hd) fun _ _ => .int _
end
def mFr (m : ME) : ME := fun s c => (m s c).bind fun r s c => .ok (r.1, false) s c
theorem bt_len : bootBuiltins "len" = some (.builtin "len") := by decide +kernel
theorem bt_abs : bootBuiltins "abs" = some (.builtin "abs") := by decide +kernel
theorem bt_divmod : bootBuiltins "divmod" = some (.builtin "divmod") := by decide +kernel
theorem bt_all : bootBuiltins "all" = some (.builtin "all") := by decide +kernel
theorem bt_any : bootBuiltins "any" = some (.builtin "any") := by decide +kernel
theorem bt_sum : bootBuiltins "sum" = some (.builtin "sum") := by decide +kernel
theorem bt_max : bootBuiltins "max" = some (.builtin "max") := by decide +kernel
theorem bt_min : bootBuiltins "min" = some (.builtin "min") := by decide +kernel
theorem bt_sorted : bootBuiltins "sorted" = some (.builtin "sorted") := by decide +kernel
theorem bt_int : bootBuiltins "int" = some (.type "int") := by decide +kernel
theorem bt_str : bootBuiltins "str" = some (.type "str") := by decide +kernel
theorem bt_bool : bootBuiltins "bool" = some (.type "bool") := by decide +kernel
theorem bt_list : bootBuiltins "list" = some (.type "list") := by decide +kernel
theorem bt_tuple : bootBuiltins "tuple" = some (.type "tuple") := by decide +kernel
theorem bt_set : bootBuiltins "set" = some (.type "set") := by decide +kernel
theorem bt_dict : bootBuiltins "dict" = some (.type "dict") := by decide +kernel
/-! len(set(..)) of texts -/
def dLenSet (d : D) : DB := match d with
  | .lst xs => (dStrs xs).bind fun ys => if ys.length < 4000 then fl (.int (dedS ys).length) else none
  | .tup xs => (dStrs xs).bind fun ys => if ys.length < 4000 then fl (.int (dedS ys).length) else none
  | _ => none
def tLenS (K : PySem.W.Frag) (ta : TE) : TE := fun σ H Q => ta σ H fun x H1 => ∃ l, ∃ xs : List Str, x = .ref l ∧ (SqL K H1 l (xs.map V.str) ∨ SqT K H1 l (xs.map V.str)) ∧ xs.length < 4000 ∧ Q (.int (dedS xs).length) H1
theorem pe_lenS {X : Cx} {e : Expr} {ta : TE} {p p2 q pos : Pos} (hc : X.calm = true) (hg : Gl X "len") (hm : X.mg "len" = none) (hg2 : Gl X "set") (hm2 : X.mg "set" = none) (he : PE X e ta) (na : starEach [e] X.env = (false, eval e X.env) :: starEach [] X.env) :
    PE X (.Call (.Name "len" p) [.Call (.Name "set" p2) [e] [] q] [] pos) (tLenS X.K ta) := by
  refine ⟨fun pins s σ H Q I h => ?_⟩
  refine Call_ (ld_blt I hg hm bt_len (PyProof.Rows.callWith_builtin1 (PyProof.Rows.args_cons ?_ rfl) rfl rfl))
  refine Call_ (ld_blt I hg2 hm2 bt_set (PyProof.Rows.callWith_type1 (PyProof.Rows.args_cons (thn (he.run pins s σ H _ I h) fun v s1 hv => PyProof.Rows.args_nil ?_) na) na rfl))
  obtain ⟨x, H1, I1, r1, l, xs, rfl, hq, hl, q1⟩ := hv
  cases r1
  have fin : ∀ (us : List Value), Vals (xs.map V.str) us → ∀ (h2 : Heap) (tk : Nat), h2.SetOf (PySem.strKind X.prog X.w) s1.heap.objs.size (fun q => (fmS (fun i => xs.getD i Str.empty) us.toArray.size).any (· == q)) (fmS (fun i => xs.getD i Str.empty) us.toArray.size).length →
      (∀ b o, b < s1.heap.objs.size → s1.heap.get? b = some o → h2.get? b = some o) →
      wpAny (model X.prog X.w) X.A (spliced (backTo pos (starEach [] X.env))) (fun vs s3 => wpAny (model X.prog X.w) X.A (call (.builtin "len") (Value.ref s1.heap.objs.size :: vs)) (EP X pins σ Q) X.xe s3) X.xe { s1 with heap := h2, toks := tk } := fun us r h2 tk S kp => by
    refine PyProof.Rows.args_nil ?_
    have ln : us.toArray.size = xs.length := by rw [List.size_toArray, ← r.length, List.length_map]
    rw [ln, fm_len] at S
    obtain ⟨o, es, ep, t, ho, hex, hd, _, _, _, hf, hn⟩ := S
    have I2 : Inv X pins σ H1 { s1 with heap := h2, toks := tk } := I1.kept fun b o e => kp b o (Heap.lt_size e) e
    have le : (dedS xs).length ≤ xs.length := sub_le (dedS_nd xs) fun x hx => dedS_mem.mp hx
    refine call_len_set ho hex hd hf (by rw [hn]; omega) ⟨.int (dedS xs).length, H1, I2.tok _, ⟨_, by rw [hn]⟩, q1⟩
  rcases hq with hq | hq
  · obtain ⟨us, r, pl, hz⟩ := I1.list hq
    exact set_list (I1.ok.hd hc) pl.isList (by simpa using strsAre_of r) hl fun h2 tk S kp => fin us r h2 tk S kp
  · obtain ⟨us, r, pl, hz⟩ := I1.tuple hq
    exact set_tuple (I1.ok.hd hc) pl (by simpa using strsAre_of r) hl fun h2 tk S kp => fin us r h2 tk S kp
theorem ve_lenSet {X : Cx} {C : Cg} {e : Expr} {m : MO} {p p2 q pos : Pos} (hK : X.K = C.G.K) (hc : X.calm = true) (hg : Gl X "len") (hm : X.mg "len" = none) (hg2 : Gl X "set") (hm2 : X.mg "set" = none) (he : PE X e (TOv C m)) (hs : noStar e = true) :
    PE X (.Call (.Name "len" p) [.Call (.Name "set" p2) [e] [] q] [] pos) (TEv C (m1 dLenSet m)) :=
  PEimp (pe_lenS hc hg hm hg2 hm2 he (star_no hs)) fun σ H Q h => by
    rw [hK]
    exact t1_of (r := fun x H1 Q => ∃ l, ∃ xs : List Str, x = .ref l ∧ (SqL C.G.K H1 l (xs.map V.str) ∨ SqT C.G.K H1 l (xs.map V.str)) ∧ xs.length < 4000 ∧ Q (.int (dedS xs).length) H1) (fun W s c σ H d v z b Q R a h k => by
      have go : ∀ {l us ds}, (SqL C.G.K H l us ∨ SqT C.G.K H l us) → Rps C.G W ds us → ((dStrs ds).bind fun ys => if ys.length < 4000 then fl (.int (dedS ys).length) else none) = some (z, b) → ∃ p, ∃ xs : List Str, V.ref l = .ref p ∧ (SqL C.G.K H p (xs.map V.str) ∨ SqT C.G.K H p (xs.map V.str)) ∧ xs.length < 4000 ∧ Q (.int (dedS xs).length) H := fun {l us ds} hs q e => by
        cases e1 : dStrs ds with
        | none => rw [e1] at e; cases e
        | some ys =>
          rw [e1] at e
          obtain ⟨h0, h1⟩ := ifs e
          obtain ⟨rfl, rfl⟩ := some_fl h1
          refine ⟨l, ys, rfl, ?_, h0, k W _ H (.refl W) R (.fz (.int _))⟩
          rw [← q.strs e1]
          exact hs
      cases d <;> first | (cases h; done) | skip
      · obtain ⟨l, us, rfl, h1, q1⟩ := a.lst R
        exact go (.inl (SqL.of h1)) q1 h
      · obtain ⟨l, us, rfl, h1, q1⟩ := a.tup R
        exact go (.inr h1) q1 h) h
end EV

set_option Elab.async false
set_option linter.all false
set_option maxRecDepth 100000
/-! EV 15: the readings' steps, one rule for each (printed by mk15.py) -/
namespace EV
open PySem PySem.Spec L2
open PyProof.Rows hiding St
section
variable {α β : Type} {s : SL} {c : CL} {a : α} {b : Bool} {d e : D} {x : XV} {i j n k : Nat} {r r' : D × Bool} {ma mb mc m : ME} {oa ob oc : MO} {A : MA} {od oe : Od} {ods : List Od} {ds : List D} {S T : MS} {P Q : MT} {f : D → D → DB} {g : D → DB} {h : List D → DB}
theorem b_ok {k : α → SL → CL → Ot β} : (Ot.ok a s c).bind k = k a s c := id rfl
theorem b_bad {k : α → SL → CL → Ot β} : (Ot.bad : Ot α).bind k = .bad := id rfl
theorem b_ex {k : α → SL → CL → Ot β} : (Ot.ex x s c : Ot α).bind k = .ex x s c := id rfl
theorem f_ok {k : α → MS} : (Ot.ok a s c).toF k = k a s c := id rfl
theorem f_bad {k : α → MS} : (Ot.bad : Ot α).toF k = .bad := id rfl
theorem f_ex {k : α → MS} : (Ot.ex x s c : Ot α).toF k = .ex x s c := id rfl
theorem n_nx : (Fl.nx s c).nxt S = S s c := id rfl
theorem n_rt : (Fl.rt d b s c).nxt S = .rt d b s c := id rfl
theorem n_bk : (Fl.bk s c).nxt S = .bk s c := id rfl
theorem n_ct : (Fl.ct s c).nxt S = .ct s c := id rfl
theorem n_ex : (Fl.ex x s c).nxt S = .ex x s c := id rfl
theorem n_bad : Fl.bad.nxt S = .bad := id rfl
theorem l_nx : (Fl.nx s c).lp S = S s c := id rfl
theorem l_rt : (Fl.rt d b s c).lp S = .rt d b s c := id rfl
theorem l_bk : (Fl.bk s c).lp S = .nx s c := id rfl
theorem l_ct : (Fl.ct s c).lp S = S s c := id rfl
theorem l_ex : (Fl.ex x s c).lp S = .ex x s c := id rfl
theorem l_bad : Fl.bad.lp S = .bad := id rfl
theorem sNx_e : sNx s c = .nx s c := id rfl
theorem sSeq_e : sSeq S T s c = (S s c).nxt T := id rfl
theorem sBk_e : sBk s c = .bk s c := id rfl
theorem sCt_e : sCt s c = .ct s c := id rfl
theorem sRetN_e : sRetN s c = .rt .non false s c := id rfl
def kExp (r : D × Bool) : MS := fun s c => .nx s c
theorem sExp_e : sExp m s c = (m s c).toF kExp := id rfl
theorem kExp_e : kExp r s c = .nx s c := id rfl
def kRet (r : D × Bool) : MS := fun s c => .rt r.1 r.2 s c
theorem sRet_e : sRet m s c = (m s c).toF kRet := id rfl
theorem kRet_e : kRet (d, b) s c = .rt d b s c := id rfl
def kIf (S T : MS) (k : Bool) : MS := fun s c => if k = true then S s c else T s c
theorem sIf_e : sIf P S T s c = (P s c).toF (kIf S T) := id rfl
theorem kIf_t : kIf S T true s c = S s c := id rfl
theorem kIf_f : kIf S T false s c = T s c := id rfl
def kSet (i : Nat) (r : D × Bool) : MS := fun s c => .nx (s.set i (svOf r)) c
theorem sSet_e : sSet i m s c = (m s c).toF (kSet i) := id rfl
theorem kSet_e : kSet i r s c = .nx (s.set i (svOf r)) c := id rfl
theorem sSetC_e : sSetC i m s c = (m s c).toF (kCell i) := id rfl
theorem kCell_e : kCell i (d, true) s c = .nx (s.set i (.fz (.cell c.length))) (c ++ [d]) := id rfl
def oF (o : Option SL) (c : CL) : Fl := match o with | some s => .nx s c | none => .bad
def kG1 (g : MG) (r : D × Bool) : MS := fun s c => oF (g r.1 s) c
theorem sAsg_e {G : MG} : sAsg G m s c = (m s c).toF (kG1 G) := by unfold sAsg; congr 1
theorem kG1_e {G : MG} : kG1 G r s c = oF (G r.1 s) c := id rfl
theorem oF_s : oF (some s) c = .nx s c := id rfl
theorem oF_n : oF none c = .bad := id rfl
theorem gN_e : gN i d s = some (s.set i (.fz d)) := id rfl
theorem gT_e {R : List D → SL → Option SL} : gT n R (.tup ds) s = if ds.length = n then R ds s else none := id rfl
theorem gsNil_e : gsNil [] s = some s := id rfl
theorem gsCons_e {G : MG} {R : List D → SL → Option SL} : gsCons G R (d :: ds) s = (G d s).bind (R ds) := id rfl
def kPar2 (i j : Nat) (r r2 : D × Bool) : MS := fun s c => .nx ((s.set i (svOf r)).set j (svOf r2)) c
def kPar1 (i j : Nat) (m : ME) (r : D × Bool) : MS := fun s c => (m s c).toF (kPar2 i j r)
theorem sPar_e : sPar i j ma mb s c = (ma s c).toF (kPar1 i j mb) := id rfl
theorem kPar1_e : kPar1 i j m r s c = (m s c).toF (kPar2 i j r) := id rfl
theorem kPar2_e : kPar2 i j r r' s c = .nx ((s.set i (svOf r)).set j (svOf r')) c := id rfl
def kPr3 (i j l : Nat) (r r2 r3 : D × Bool) : MS := fun s c => .nx (((s.set i (svOf r)).set j (svOf r2)).set l (svOf r3)) c
def kPr2 (i j l : Nat) (m : ME) (r r2 : D × Bool) : MS := fun s c => (m s c).toF (kPr3 i j l r r2)
def kPr1 (i j l : Nat) (ma mb : ME) (r : D × Bool) : MS := fun s c => (ma s c).toF (kPr2 i j l mb r)
theorem sPar3_e : sPar3 i j n ma mb mc s c = (ma s c).toF (kPr1 i j n mb mc) := id rfl
theorem kPr1_e : kPr1 i j n ma mb r s c = (ma s c).toF (kPr2 i j n mb r) := id rfl
theorem kPr2_e : kPr2 i j n m r r' s c = (m s c).toF (kPr3 i j n r r') := id rfl
theorem kPr3_e {q : D × Bool} : kPr3 i j n r r' q s c = .nx (((s.set i (svOf r)).set j (svOf r')).set n (svOf q)) c := id rfl
def kPut2 (i : Nat) (d : D) (oi : Od) : MS := fun s c => kPut i d (oi.get s c) s c
def kPut1 (i : Nat) (mi : MO) (r : D × Bool) : MS := fun s c => if isLst (plGet s c i) = true then (mi s c).toF (kPut2 i r.1) else .bad
theorem sPut_e : sPut i m oa s c = (m s c).toF (kPut1 i oa) := id rfl
theorem kPut1_e : kPut1 i oa r s c = if isLst (plGet s c i) = true then (oa s c).toF (kPut2 i r.1) else .bad := id rfl
theorem kPut2_e : kPut2 i d od s c = kPut i d (od.get s c) s c := id rfl
theorem isLst_l : isLst (some (.lst ds)) = true := id rfl
def kPu (i : Nat) (r : D) (xs : List D) (o : Option Nat) : MS := fun s c => match o with | some j => .nx (plS s i (.lst (xs.set j r))) (plC s c i (.lst (xs.set j r))) | none => .bad
def kPt (i : Nat) (r : D) (p o : Option D) : MS := fun s c => match p, o with | some (.lst xs), some (.int k) => kPu i r xs (ixN xs.length k) s c | _, _ => .bad
theorem kPut_e {o : Option D} : kPut i d o s c = kPt i d (plGet s c i) o s c := id rfl
theorem kPt_e {z : Int} : kPt i d (some (.lst ds)) (some (.int z)) s c = kPu i d ds (ixN ds.length z) s c := id rfl
theorem kPu_e : kPu i d ds (some j) s c = .nx (plS s i (.lst (ds.set j d))) (plC s c i (.lst (ds.set j d))) := id rfl
def pG (o : Option SV) (c : CL) : Option D := match o with | some (.ow d) => some d | some (.fz (.cell k)) => c[k]? | _ => none
theorem plGet_e : plGet s c i = pG s[i]? c := id rfl
theorem pG_o : pG (some (.ow d)) c = some d := id rfl
theorem pG_c : pG (some (.fz (.cell k))) c = c[k]? := id rfl
def pS (o : Option SV) (s : SL) (i : Nat) (d : D) : SL := match o with | some (.ow _) => s.set i (.ow d) | _ => s
theorem plS_e : plS s i d = pS s[i]? s i d := id rfl
theorem pS_o : pS (some (.ow e)) s i d = s.set i (.ow d) := id rfl
theorem pS_f : pS (some (.fz e)) s i d = s := id rfl
def pC (o : Option SV) (c : CL) (d : D) : CL := match o with | some (.fz (.cell k)) => c.set k d | _ => c
theorem plC_e : plC s c i d = pC s[i]? c d := id rfl
theorem pC_o : pC (some (.ow e)) c d = c := id rfl
theorem pC_c : pC (some (.fz (.cell k))) c d = c.set k d := id rfl
def kFz (r : D × Bool) : ME := fun s c => .ok (r.1, false) s c
theorem mFr_e : mFr m s c = (m s c).bind kFz := id rfl
theorem kFz_e : kFz (d, b) s c = .ok (d, false) s c := id rfl
def kVar (o : Option SV) (i : Nat) : ME := fun s c => match o with | some (.fz d) => .ok (d, false) s c | some (.ow d) => .ok (d, false) (s.set i (.fz d)) c | _ => .bad
theorem mVar_e : mVar i s c = kVar s[i]? i s c := id rfl
theorem kVar_f : kVar (some (.fz d)) i s c = .ok (d, false) s c := id rfl
theorem kVar_o : kVar (some (.ow d)) i s c = .ok (d, false) (s.set i (.fz d)) c := id rfl
def kMov (o : Option SV) (i : Nat) : ME := fun s c => match o with | some (.fz d) => .ok (d, false) s c | some (.ow d) => .ok (d, true) (s.set i .no) c | _ => .bad
theorem mMov_e : mMov i s c = kMov s[i]? i s c := id rfl
theorem kMov_f : kMov (some (.fz d)) i s c = .ok (d, false) s c := id rfl
theorem kMov_o : kMov (some (.ow d)) i s c = .ok (d, true) (s.set i .no) c := id rfl
def kBw (o : Option SV) (i : Nat) : MO := fun s c => match o with | some .no => .bad | some _ => .ok (.bw i) s c | none => .bad
theorem mBw_e : mBw i s c = kBw s[i]? i s c := id rfl
theorem kBw_f : kBw (some (.fz d)) i s c = .ok (.bw i) s c := id rfl
theorem kBw_o : kBw (some (.ow d)) i s c = .ok (.bw i) s c := id rfl
theorem mCon_e : mCon d s c = .ok (d, false) s c := id rfl
def kOf (r : D × Bool) : MO := fun s c => .ok (.dv r.1) s c
theorem mOf_e : mOf m s c = (m s c).bind kOf := id rfl
theorem kOf_e : kOf (d, b) s c = .ok (.dv d) s c := id rfl
def o2 (f : D → D → DB) (x y : Option D) : DB := match x, y with | some x, some y => f x y | _, _ => none
theorem o2_e : o2 f (some d) (some e) = f d e := id rfl
def k2b (f : D → D → DB) (od oe : Od) : ME := fun s c => kDB (o2 f (od.get s c) (oe.get s c)) s c
def k2a (f : D → D → DB) (mb : MO) (od : Od) : ME := fun s c => (mb s c).bind (k2b f od)
theorem m2_e : m2 f oa ob s c = (oa s c).bind (k2a f ob) := by unfold m2; congr 1; funext od s c; unfold k2a; congr 1; funext oe s c; unfold k2b o2 kDB; split <;> (try (split <;> simp_all)) <;> simp_all
theorem k2a_e : k2a f ob od s c = (ob s c).bind (k2b f od) := id rfl
theorem k2b_e : k2b f od oe s c = kDB (o2 f (od.get s c) (oe.get s c)) s c := id rfl
theorem kDB_s : kDB (some r) s c = .ok r s c := id rfl
theorem kDB_n : kDB none s c = .bad := id rfl
theorem fl_e : fl d = some (d, false) := id rfl
def k1a (g : D → DB) (od : Od) : ME := fun s c => kDB ((od.get s c).bind g) s c
theorem m1_e : m1 g oa s c = (oa s c).bind (k1a g) := id rfl
theorem k1a_e : k1a g od s c = kDB ((od.get s c).bind g) s c := id rfl
theorem get_dv : (Od.dv d).get s c = deref c d := id rfl
theorem get_bw : (Od.bw i).get s c = (s[i]?.bind SV.get).bind (deref c) := id rfl
theorem sv_f : SV.get (.fz d) = some d := id rfl
theorem sv_o : SV.get (.ow d) = some d := id rfl
theorem sv_n : SV.get .no = none := id rfl
theorem de_cell : deref c (.cell k) = c[k]? := id rfl
theorem de_non : deref c .non = some .non := id rfl
theorem de_bool : deref c (.bool b) = some (.bool b) := id rfl
theorem de_int {z : Int} : deref c (.int z) = some (.int z) := id rfl
theorem de_str {u : Str} : deref c (.str u) = some (.str u) := id rfl
theorem de_fn : deref c (.fn i) = some (.fn i) := id rfl
theorem de_rol : deref c (.rol ds) = some (.rol ds) := id rfl
theorem de_lst : deref c (.lst ds) = some (.lst ds) := id rfl
theorem de_tup : deref c (.tup ds) = some (.tup ds) := id rfl
theorem de_dct {p : List (Key × D)} : deref c (.dct p) = some (.dct p) := id rfl
theorem de_dtt {q : List (List Key × D)} : deref c (.dtt q) = some (.dtt q) := id rfl
theorem de_ins {l : List (Nat × D)} : deref c (.ins i l) = some (.ins i l) := id rfl
def kCB (h : List D → DB) (ods : List Od) : ME := fun s c => kDB ((getAll s c ods).bind h) s c
theorem mCB_e : mCB h A s c = (A s c).bind (kCB h) := id rfl
theorem kCB_e : kCB h ods s c = kDB ((getAll s c ods).bind h) s c := id rfl
def g2 (x : Option D) (y : Option (List D)) : Option (List D) := match x, y with | some d, some ds => some (d :: ds) | _, _ => none
theorem getAll_n : getAll s c [] = some [] := id rfl
theorem getAll_c : getAll s c (od :: ods) = g2 (od.get s c) (getAll s c ods) := by unfold g2; rfl
theorem g2_e : g2 (some d) (some ds) = some (d :: ds) := id rfl
def kVl (h : List D → DB) (ods : List Od) : ME := fun s c => kDB ((valsOf ods).bind h) s c
theorem mVals_e : mVals h A s c = (A s c).bind (kVl h) := id rfl
theorem kVl_e : kVl h ods s c = kDB ((valsOf ods).bind h) s c := id rfl
theorem vals_n : valsOf [] = some [] := id rfl
theorem vals_c : valsOf (.dv d :: ods) = (valsOf ods).map (d :: ·) := by first | rfl | (unfold valsOf; cases valsOf ods <;> rfl)
theorem aNil_e : aNil s c = .ok [] s c := id rfl
def kC2 (od : Od) (ods : List Od) : MA := fun s c => .ok (od :: ods) s c
def kC1 (A : MA) (od : Od) : MA := fun s c => (A s c).bind (kC2 od)
theorem aCons_e : aCons oa A s c = (oa s c).bind (kC1 A) := id rfl
theorem kC1_e : kC1 A od s c = (A s c).bind (kC2 od) := id rfl
theorem kC2_e : kC2 od ods s c = .ok (od :: ods) s c := id rfl
def kTb (r : D × Bool) : MT := fun s c => kT r.1 s c
theorem mT_e : mT m s c = (m s c).bind kTb := id rfl
theorem kTb_e {n : Bool} : kTb (.bool b, n) s c = .ok b s c := id rfl
def kAn (Q : MT) (k : Bool) : MT := fun s c => if k = true then Q s c else .ok false s c
theorem tAnd_e : tAndM P Q s c = (P s c).bind (kAn Q) := id rfl
theorem kAn_t : kAn Q true s c = Q s c := id rfl
theorem kAn_f : kAn Q false s c = .ok false s c := id rfl
def kOrr (Q : MT) (k : Bool) : MT := fun s c => if k = true then .ok true s c else Q s c
theorem tOr_e : tOrM P Q s c = (P s c).bind (kOrr Q) := id rfl
theorem kOr_t : kOrr Q true s c = .ok true s c := id rfl
theorem kOr_f : kOrr Q false s c = Q s c := id rfl
def kNt (k : Bool) : MT := fun s c => .ok (!k) s c
theorem tNot_e : tNotM P s c = (P s c).bind kNt := id rfl
theorem kNt_e : kNt b s c = .ok (!b) s c := id rfl
def kTr (od : Od) : MT := fun s c => kO ((od.get s c).bind dTru) s c
theorem mTru_e : mTru oa s c = (oa s c).bind kTr := id rfl
theorem kTr_e : kTr od s c = kO ((od.get s c).bind dTru) s c := id rfl
theorem kO_s : kO (some a) s c = .ok a s c := id rfl
theorem dTru_b : dTru (.bool b) = some b := id rfl
def kIfe (ma mb : ME) (k : Bool) : ME := fun s c => if k = true then ma s c else mb s c
theorem mIf_e : mIf P ma mb s c = (P s c).bind (kIfe ma mb) := id rfl
theorem kIfe_t : kIfe ma mb true s c = ma s c := id rfl
theorem kIfe_f : kIfe ma mb false s c = mb s c := id rfl
def kAnd (mb : ME) (r : D × Bool) : ME := fun s c => kB r.1 fun k => if k = true then mb s c else .ok (.bool false, false) s c
theorem mAnd_e : mAnd ma mb s c = (ma s c).bind (kAnd mb) := id rfl
theorem kAnd_t {n : Bool} : kAnd mb (.bool true, n) s c = mb s c := id rfl
theorem kAnd_f {n : Bool} : kAnd mb (.bool false, n) s c = .ok (.bool false, false) s c := id rfl
def kOr2 (mb : ME) (r : D × Bool) : ME := fun s c => kB r.1 fun k => if k = true then .ok (.bool true, false) s c else mb s c
theorem mOr_e : mOr ma mb s c = (ma s c).bind (kOr2 mb) := id rfl
theorem kOr2_t {n : Bool} : kOr2 mb (.bool true, n) s c = .ok (.bool true, false) s c := id rfl
theorem kOr2_f {n : Bool} : kOr2 mb (.bool false, n) s c = mb s c := id rfl
def kNot2 (r : D × Bool) : ME := fun s c => kB r.1 fun k => .ok (.bool (!k), false) s c
theorem mNot_e : mNot ma s c = (ma s c).bind kNot2 := id rfl
theorem kNot2_e {n : Bool} : kNot2 (.bool b, n) s c = .ok (.bool (!b), false) s c := id rfl
def kFr (o : Ot (D × Bool)) : SL → Ot (D × Bool) := fun s => match o with | .ok r _ c => .ok r s c | _ => .bad
theorem kFr_o {s2 : SL} : kFr (.ok r s c) s2 = .ok r s2 c := id rfl
def kF1 (n : Nat) (F : FM) (ods : List Od) : ME := fun s c => if ods.length = n then kFn F (valsOf ods) s c else .bad
theorem mFn_e {F : FM} : mFn n F A s c = (A s c).bind (kF1 n F) := id rfl
theorem kF1_e {F : FM} : kF1 n F ods s c = if ods.length = n then kFn F (valsOf ods) s c else .bad := id rfl
theorem kFn_e {F : FM} : kFn F (some ds) s c = kFr (F ds c) s := by unfold kFn kFr; rfl
def kK2 (n m : Nat) (p : List Nat) (F : FM) (o1 o2 : List Od) : ME := fun s c => kFnK n m p F o1 o2 s c
def kK1 (n m : Nat) (p : List Nat) (F : FM) (A : MA) (o1 : List Od) : ME := fun s c => (A s c).bind (kK2 n m p F o1)
theorem mFnK_e {F : FM} {B : MA} {p : List Nat} : mFnK n k p F A B s c = (A s c).bind (kK1 n k p F B) := id rfl
theorem kK1_e {F : FM} {p : List Nat} : kK1 n k p F A ods s c = (A s c).bind (kK2 n k p F ods) := id rfl
def v2 (p : List Nat) (x y : Option (List D)) : Option (List D) := match x, y with | some ds, some es => some (pick p (ds ++ es)) | _, _ => none
theorem v2_e {p : List Nat} {es : List D} : v2 p (some ds) (some es) = some (pick p (ds ++ es)) := id rfl
theorem kK2_e {F : FM} {p : List Nat} {o2 : List Od} : kK2 n k p F ods o2 s c = if ods.length = n ∧ o2.length = k then kFn F (v2 p (valsOf ods) (valsOf o2)) s c else .bad := by unfold kK2 kFnK v2; rfl
def kMu (F : D → List D → Option (D × D)) (i : Nat) (ods : List Od) : ME := fun s c => kMut i ((plGet s c i).bind fun d => (valsOf ods).bind (F d)) s c
theorem mMut_e {F : D → List D → Option (D × D)} : mMut F i A s c = if isLst (plGet s c i) = true then (A s c).bind (kMu F i) else .bad := id rfl
def oM (F : D → List D → Option (D × D)) (p : Option D) (v : Option (List D)) : Option (D × D) := match p, v with | some d, some ds => F d ds | _, _ => none
theorem kMu_e {F : D → List D → Option (D × D)} : kMu F i ods s c = kMut i (oM F (plGet s c i) (valsOf ods)) s c := by unfold kMu oM; cases plGet s c i <;> cases valsOf ods <;> rfl
theorem mMut0_e {F : D → List D → Option (D × D)} : mMut0 F i s c = if isLst (plGet s c i) = true then kMut i (oM F (plGet s c i) (some [])) s c else .bad := by unfold mMut0 oM; cases plGet s c i <;> rfl
theorem oM_e {F : D → List D → Option (D × D)} : oM F (some d) (some ds) = F d ds := id rfl
theorem kMut_e : kMut i (some (d, e)) s c = .ok (e, false) (plS s i d) (plC s c i d) := id rfl
def oCh (f g : D → D → DB) (x y : Option D) (oc : MO) (ob : Od) : ME := fun s c => .bad
def kPn (b : Bool) : SL → CL → Ot (Option Int) := fun s c => .ok none s c
theorem pNone_e : pNone s c = .ok none s c := id rfl
def kPs (r : D × Bool) : SL → CL → Ot (Option Int) := fun s c => kInt r.1 s c
theorem pSome_e : pSome m s c = (m s c).bind kPs := id rfl
theorem kPs_e {z : Int} : kPs (.int z, b) s c = .ok (some z) s c := id rfl
def kCt3 (od : Od) (lo hi : Option Int) : ME := fun s c => kDB ((od.get s c).bind fun d => dCut d lo hi) s c
def kCt2 (mh : MP) (od : Od) (lo : Option Int) : ME := fun s c => (mh s c).bind (kCt3 od lo)
def kCt1 (ml mh : MP) (od : Od) : ME := fun s c => (ml s c).bind (kCt2 mh od)
theorem mCut_e {ml mh : MP} : mCut oa ml mh s c = (oa s c).bind (kCt1 ml mh) := id rfl
theorem kCt1_e {ml mh : MP} : kCt1 ml mh od s c = (ml s c).bind (kCt2 mh od) := id rfl
theorem kCt2_e {mh : MP} {lo : Option Int} : kCt2 mh od lo s c = (mh s c).bind (kCt3 od lo) := id rfl
def oC3 (o : Option D) (lo hi : Option Int) : DB := match o with | some d => dCut d lo hi | none => none
theorem oC3_e {lo hi : Option Int} : oC3 (some d) lo hi = dCut d lo hi := id rfl
theorem kCt3_e {lo hi : Option Int} : kCt3 od lo hi s c = kDB (oC3 (od.get s c) lo hi) s c := by unfold kCt3 oC3; cases od.get s c <;> rfl
def endF (o : Fl) : Ot (D × Bool) := match o with | .nx _ c => .ok (.non, false) [] c | .rt d b _ c => .ok (d, b) [] c | _ => .bad
theorem fM_e : fM n S ds c = endF (S (ds.map .fz ++ List.replicate (n - ds.length) .no) c) := id rfl
theorem endF_n : endF (.nx s c) = .ok (.non, false) [] c := id rfl
theorem endF_r : endF (.rt d b s c) = .ok (d, b) [] c := id rfl
theorem dAdd_i {y z : Int} : dAdd (.int y) (.int z) = fl (.int (y + z)) := id rfl
theorem dAdd_s {u v : Str} : dAdd (.str u) (.str v) = if u.length + v.length ≤ sizeLine then fl (.str (u ++ v)) else none := id rfl
theorem dAdd_l {es : List D} : dAdd (.lst ds) (.lst es) = if ds.length + es.length ≤ sizeLine then some (.lst (ds ++ es), true) else none := id rfl
theorem dAdd_t {es : List D} : dAdd (.tup ds) (.tup es) = if ds.length + es.length ≤ sizeLine then fl (.tup (ds ++ es)) else none := id rfl
theorem dSub_i {y z : Int} : dSub (.int y) (.int z) = fl (.int (y - z)) := id rfl
theorem dMul_i {y z : Int} : dMul (.int y) (.int z) = if CMulS y z then fl (.int (y * z)) else none := id rfl
theorem dDiv_i {y z : Int} : dDiv (.int y) (.int z) = if CDivW y z then fl (.int (y / z)) else none := id rfl
theorem dMod_i {y z : Int} : dMod (.int y) (.int z) = if 0 < z then fl (.int (y % z)) else none := id rfl
theorem dPow_i {y z : Int} : dPow (.int y) (.int z) = if CPow y z then fl (.int (y ^ z.toNat)) else none := id rfl
theorem dLt_i {y z : Int} : dLt (.int y) (.int z) = fl (.bool (decide (y < z))) := id rfl
theorem dLe_i {y z : Int} : dLe (.int y) (.int z) = fl (.bool (decide (y ≤ z))) := id rfl
theorem dGt_i {y z : Int} : dGt (.int y) (.int z) = fl (.bool (decide (z < y))) := id rfl
theorem dGe_i {y z : Int} : dGe (.int y) (.int z) = fl (.bool (decide (z ≤ y))) := id rfl
theorem dLt_s {u v : Str} : dLt (.str u) (.str v) = fl (.bool (decide (u.cps.toList < v.cps.toList))) := id rfl
theorem dEq_i {y z : Int} : dEq (.int y) (.int z) = fl (.bool (decide (y = z))) := id rfl
theorem dEq_b {y z : Bool} : dEq (.bool y) (.bool z) = fl (.bool (decide (y = z))) := id rfl
theorem dEq_s {y z : Str} : dEq (.str y) (.str z) = fl (.bool (decide (y = z))) := id rfl
theorem dNe_i {y z : Int} : dNe (.int y) (.int z) = fl (.bool (!decide (y = z))) := id rfl
theorem dNe_b {y z : Bool} : dNe (.bool y) (.bool z) = fl (.bool (!decide (y = z))) := id rfl
theorem dNe_s {y z : Str} : dNe (.str y) (.str z) = fl (.bool (!decide (y = z))) := id rfl
theorem dInt_i {z : Int} : dInt [.int z] = fl (.int z) := id rfl
theorem dAbs_i {z : Int} : dAbs [.int z] = fl (.int (if z < 0 then -z else z)) := id rfl
theorem dLen_l : dLen [.lst ds] = fl (.int ds.length) := id rfl
theorem dLen_r : dLen [.rol ds] = fl (.int ds.length) := id rfl
theorem dLen_t : dLen [.tup ds] = fl (.int ds.length) := id rfl
theorem dLen_s {u : Str} : dLen [.str u] = if u.length ≤ sizeLine then fl (.int u.length) else none := id rfl
theorem dIx_l {z : Int} : dIx (.lst ds) (.int z) = (atI ds z).bind fl := id rfl
theorem dIx_r {z : Int} : dIx (.rol ds) (.int z) = (atI ds z).bind fl := id rfl
theorem dIx_t {z : Int} : dIx (.tup ds) (.int z) = (atI ds z).bind fl := id rfl
theorem dList_l : dList [.lst ds] = some (.lst ds, true) := id rfl
theorem dList_r : dList [.rol ds] = some (.lst ds, true) := id rfl
theorem dList_t : dList [.tup ds] = some (.lst ds, true) := id rfl
theorem dTuple_l : dTuple [.lst ds] = fl (.tup ds) := id rfl
theorem dTuple_t : dTuple [.tup ds] = fl (.tup ds) := id rfl
theorem dDispL_e : dDispL ds = if ds.length ≤ sizeLine then some (.lst ds, true) else none := id rfl
theorem dDispT_e : dDispT ds = if ds.length ≤ sizeLine then fl (.tup ds) else none := id rfl
theorem dIsN_n : dIsN .non .non = fl (.bool true) := id rfl
theorem dNotN_n : dNotN .non .non = fl (.bool false) := id rfl
theorem dIsN_bool : dIsN (.bool b) .non = fl (.bool false) := id rfl
theorem dNotN_bool : dNotN (.bool b) .non = fl (.bool true) := id rfl
theorem dIsN_int {z : Int} : dIsN (.int z) .non = fl (.bool false) := id rfl
theorem dNotN_int {z : Int} : dNotN (.int z) .non = fl (.bool true) := id rfl
theorem dIsN_str {u : Str} : dIsN (.str u) .non = fl (.bool false) := id rfl
theorem dNotN_str {u : Str} : dNotN (.str u) .non = fl (.bool true) := id rfl
theorem dIsN_lst : dIsN (.lst ds) .non = fl (.bool false) := id rfl
theorem dNotN_lst : dNotN (.lst ds) .non = fl (.bool true) := id rfl
theorem dIsN_tup : dIsN (.tup ds) .non = fl (.bool false) := id rfl
theorem dNotN_tup : dNotN (.tup ds) .non = fl (.bool true) := id rfl
theorem dIsi_non {K : Ty}  : dIsi K .non = fl (.bool (tyIs .non K)) := id rfl
theorem dIsiT_non {Ks : List Ty}  : dIsiT Ks .non = fl (.bool (Ks.any (tyIs .non))) := id rfl
theorem dIsi_bool {K : Ty}  : dIsi K (.bool b) = fl (.bool (tyIs .bool K)) := id rfl
theorem dIsiT_bool {Ks : List Ty}  : dIsiT Ks (.bool b) = fl (.bool (Ks.any (tyIs .bool))) := id rfl
theorem dIsi_int {K : Ty} {z : Int} : dIsi K (.int z) = fl (.bool (tyIs .int K)) := id rfl
theorem dIsiT_int {Ks : List Ty} {z : Int} : dIsiT Ks (.int z) = fl (.bool (Ks.any (tyIs .int))) := id rfl
theorem dIsi_str {K : Ty} {u : Str} : dIsi K (.str u) = fl (.bool (tyIs .str K)) := id rfl
theorem dIsiT_str {Ks : List Ty} {u : Str} : dIsiT Ks (.str u) = fl (.bool (Ks.any (tyIs .str))) := id rfl
theorem dIsi_lst {K : Ty}  : dIsi K (.lst ds) = fl (.bool (tyIs .list K)) := id rfl
theorem dIsiT_lst {Ks : List Ty}  : dIsiT Ks (.lst ds) = fl (.bool (Ks.any (tyIs .list))) := id rfl
theorem dIsi_rol {K : Ty}  : dIsi K (.rol ds) = fl (.bool (tyIs .list K)) := id rfl
theorem dIsiT_rol {Ks : List Ty}  : dIsiT Ks (.rol ds) = fl (.bool (Ks.any (tyIs .list))) := id rfl
theorem dIsi_tup {K : Ty}  : dIsi K (.tup ds) = fl (.bool (tyIs .tuple K)) := id rfl
theorem dIsiT_tup {Ks : List Ty}  : dIsiT Ks (.tup ds) = fl (.bool (Ks.any (tyIs .tuple))) := id rfl
def kH4 (g : D → D → DB) (ob oc : Od) : ME := fun s c => kDB (o2 g (ob.get s c) (oc.get s c)) s c
def kH3 (g : D → D → DB) (mc : MO) (ob : Od) (r : D × Bool) : ME := fun s c => kB r.1 fun k => if k = true then (mc s c).bind (kH4 g ob) else .ok (.bool false, false) s c
def kH2 (f g : D → D → DB) (mc : MO) (oa ob : Od) : ME := fun s c => (kDB (o2 f (oa.get s c) (ob.get s c)) s c).bind (kH3 g mc ob)
def kH1 (f g : D → D → DB) (mb mc : MO) (oa : Od) : ME := fun s c => (mb s c).bind (kH2 f g mc oa)
theorem mChain_e {f2 : D → D → DB} : mChain f f2 oa ob oc s c = (oa s c).bind (kH1 f f2 ob oc) := by rfl
theorem kH1_e {f2 : D → D → DB} : kH1 f f2 ob oc od s c = (ob s c).bind (kH2 f f2 oc od) := id rfl
theorem kH2_e {f2 : D → D → DB} : kH2 f f2 oc od oe s c = (kDB (o2 f (od.get s c) (oe.get s c)) s c).bind (kH3 f2 oc oe) := id rfl
theorem kH3_t {n : Bool} : kH3 f oc od (.bool true, n) s c = (oc s c).bind (kH4 f od) := id rfl
theorem kH3_f {n : Bool} : kH3 f oc od (.bool false, n) s c = .ok (.bool false, false) s c := id rfl
theorem kH4_e : kH4 f od oe s c = kDB (o2 f (od.get s c) (oe.get s c)) s c := id rfl
def kM3 (f : D → D → DB) (z : Str) (oe : Od) : ME := fun s c => kDB ((oe.get s c).bind fun y => f (.str z) y) s c
def kM2 (f : D → D → DB) (me : MO) (o : Option D) : ME := fun s c => match o with | some (.str z) => (me s c).bind (kM3 f z) | _ => .bad
def kM1 (f : D → D → DB) (me : MO) (od : Od) : ME := fun s c => kM2 f me (od.get s c) s c
theorem mM1_e : mM1 f oa ob s c = (oa s c).bind (kM1 f ob) := id rfl
theorem kM1_e : kM1 f ob od s c = kM2 f ob (od.get s c) s c := id rfl
theorem kM2_e {u : Str} : kM2 f ob (some (.str u)) s c = (ob s c).bind (kM3 f u) := id rfl
theorem kM3_e {u : Str} : kM3 f u od s c = kDB (o2 f (some (.str u)) (od.get s c)) s c := by show kDB _ s c = kDB _ s c; congr 1; cases od.get s c <;> rfl
def kJ (acc : Str) (ms : List ME) (r : D × Bool) : ME := fun s c => match r.1 with | .str y => if (acc ++ y).length ≤ sizeLine then mJs (acc ++ y) ms s c else .bad | _ => .bad
theorem mJs_n {u : Str} : mJs u [] s c = .ok (.str u, false) s c := id rfl
theorem mJs_c {u : Str} {l : List ME} : mJs u (m :: l) s c = (m s c).bind (kJ u l) := id rfl
theorem kJ_e {u v : Str} {l : List ME} : kJ u l (.str v, b) s c = if (u ++ v).length ≤ sizeLine then mJs (u ++ v) l s c else .bad := id rfl
theorem dFmt_s {u : Str} : dFmt (.str u) = if u.length ≤ sizeLine then fl (.str u) else none := id rfl
theorem dNeg_i {z : Int} : dNeg (.int z) = fl (.int (-z)) := id rfl
theorem dDivmod_e {y z : Int} : dDivmod [.int y, .int z] = if CDiv y z then fl (.tup [.int (y / z), .int (y % z)]) else none := id rfl
theorem dMax2_e {y z : Int} : dMax2 [.int y, .int z] = fl (.int (if z > y then z else y)) := id rfl
theorem dMin2_e {y z : Int} : dMin2 [.int y, .int z] = fl (.int (if z < y then z else y)) := id rfl
theorem dCut_l {lo hi : Option Int} : dCut (.lst ds) lo hi = some (.lst (cutD ds lo hi), true) := id rfl
theorem dCut_r {lo hi : Option Int} : dCut (.rol ds) lo hi = some (.lst (cutD ds lo hi), true) := id rfl
theorem dCut_t {lo hi : Option Int} : dCut (.tup ds) lo hi = fl (.tup (cutD ds lo hi)) := id rfl
theorem dCut_s {u : Str} {lo hi : Option Int} : dCut (.str u) lo hi = if u.length ≤ sizeLine then fl (.str (cutS u lo hi)) else none := id rfl
theorem dPop_e {z : Int} : fPopAt (.lst ds) [.int z] = if -(2 ^ 63) ≤ z ∧ z < 2 ^ 63 then (seqIndex? z ds.length).bind fun k => (ds[k]?).map fun d => (.lst (ds.eraseIdx k), d) else none := id rfl
theorem fApp_e : fAppend (.lst ds) [d] = if ds.length < sizeLine then some (.lst (ds ++ [d]), .non) else none := id rfl
end
end EV

set_option Elab.async false
set_option linter.all false
set_option maxRecDepth 100000
/-! EV 16: loops and comprehensions by what holds of their turns -/
namespace EV
open PySem PySem.Spec L2
open PyProof.Rows hiding St

/-- what a loop's body may end with -/
def LpQ (P : SL → CL → Prop) (Q : Fl → Prop) : Fl → Prop
  | .nx s c => P s c
  | .ct s c => P s c
  | .bk s c => Q (.nx s c)
  | o => Q o
theorem fLoop_go {ds : List D} {g : MG} {b : MS} (P : Nat → SL → CL → Prop) (Q : Fl → Prop) (hend : ∀ s c, P ds.length s c → Q (.nx s c))
    (step : ∀ i d s c, ds[i]? = some d → P i s c → ∃ s1, g d s = some s1 ∧ LpQ (P (i + 1)) Q (b s1 c)) :
    ∀ (n i : Nat) (s : SL) (c : CL), n + i = ds.length → P i s c → Q (fLoop (lkL ds) g b (n + 1) i s c)
  | 0, i, s, c, hn, p => by
    have e : lkL ds i s c = some none := by
      show some ds[i]? = some none
      rw [List.getElem?_eq_none (by omega)]
    show Q (match lkL ds i s c with
      | none => .bad
      | some none => .nx s c
      | some (some d) => (match g d s with
        | some s => (b s c).lp (fLoop (lkL ds) g b 0 (i + 1))
        | none => .bad))
    rw [e]
    have : i = ds.length := by omega
    subst this
    exact hend s c p
  | n + 1, i, s, c, hn, p => by
    have hi : i < ds.length := by omega
    have e : lkL ds i s c = some (some ds[i]) := by
      show some ds[i]? = some (some ds[i])
      rw [List.getElem?_eq_getElem hi]
    show Q (match lkL ds i s c with
      | none => .bad
      | some none => .nx s c
      | some (some d) => (match g d s with
        | some s => (b s c).lp (fLoop (lkL ds) g b (n + 1) (i + 1))
        | none => .bad))
    rw [e]
    obtain ⟨s1, e1, h⟩ := step i ds[i] s c (List.getElem?_eq_getElem hi) p
    show Q (match g ds[i] s with
      | some s => (b s c).lp (fLoop (lkL ds) g b (n + 1) (i + 1))
      | none => .bad)
    rw [e1]
    show Q ((b s1 c).lp (fLoop (lkL ds) g b (n + 1) (i + 1)))
    cases eb : b s1 c with
    | nx s2 c2 => rw [eb] at h; exact fLoop_go P Q hend step n (i + 1) s2 c2 (by omega) h
    | ct s2 c2 => rw [eb] at h; exact fLoop_go P Q hend step n (i + 1) s2 c2 (by omega) h
    | bk s2 c2 => rw [eb] at h; exact h
    | rt d f s2 c2 => rw [eb] at h; exact h
    | ex x s2 c2 => rw [eb] at h; exact h
    | bad => rw [eb] at h; exact h
/-- a for loop over known items -/
theorem sFor_go {mi : MI} {g : MG} {b : MS} {s s1 : SL} {c c1 : CL} {ds : List D} (hm : mi s c = .ok (ds.length + 1, lkL ds) s1 c1) (P : Nat → SL → CL → Prop) (Q : Fl → Prop) (h0 : P 0 s1 c1) (hend : ∀ s c, P ds.length s c → Q (.nx s c))
    (step : ∀ i d s c, ds[i]? = some d → P i s c → ∃ s1, g d s = some s1 ∧ LpQ (P (i + 1)) Q (b s1 c)) : Q (sFor mi g b s c) := by
  unfold sFor
  rw [hm]
  exact fLoop_go P Q hend step ds.length 0 s1 c1 (by omega) h0
/-- a while loop: a word and a measure of the state -/
theorem wLoop_go {t : MT} {b : MS} (P : Nat → SL → CL → Prop) (Q : Fl → Prop)
    (step : ∀ n s c, P n s c → (∃ s1 c1, t s c = .ok false s1 c1 ∧ Q (.nx s1 c1)) ∨ ∃ s1 c1, t s c = .ok true s1 c1 ∧ LpQ (fun s c => ∃ m, m < n ∧ P m s c) Q (b s1 c1)) :
    ∀ (n : Nat) (k : Nat) (s : SL) (c : CL), n < k → P n s c → Q (wLoop t b k s c) := by
  intro n
  induction n using Nat.strongRecOn with
  | _ n ih =>
    intro k s c hk p
    obtain ⟨k, rfl⟩ : ∃ j, k = j + 1 := ⟨k - 1, by omega⟩
    show Q ((t s c).toF fun k0 s c => if k0 = true then (b s c).lp (wLoop t b k) else .nx s c)
    rcases step n s c p with ⟨s1, c1, e, q⟩ | ⟨s1, c1, e, q⟩
    · rw [e]
      exact q
    · rw [e]
      show Q ((b s1 c1).lp (wLoop t b k))
      cases eb : b s1 c1 with
      | nx s2 c2 => rw [eb] at q; obtain ⟨m, hm, p2⟩ := q; exact ih m hm k s2 c2 (by omega) p2
      | ct s2 c2 => rw [eb] at q; obtain ⟨m, hm, p2⟩ := q; exact ih m hm k s2 c2 (by omega) p2
      | bk s2 c2 => rw [eb] at q; exact q
      | rt d f s2 c2 => rw [eb] at q; exact q
      | ex x s2 c2 => rw [eb] at q; exact q
      | bad => rw [eb] at q; exact q
/-- one turn of a comprehension -/
def CtQ (t : MT) (m : ME) (s : SL) (c : CL) (acc : List D) (P : List D → SL → CL → Prop) : Prop :=
  (∃ s1 c1, t s c = .ok false s1 c1 ∧ P acc s1 c1) ∨ ∃ s1 c1 d b s2 c2, t s c = .ok true s1 c1 ∧ m s1 c1 = .ok (d, b) s2 c2 ∧ acc.length < sizeLine ∧ P (acc ++ [d]) s2 c2
theorem cLoop_go {ds : List D} {g : MG} {t : MT} {m : ME} {vs : List Nat} {fin : SL → SL} (P : Nat → List D → SL → CL → Prop)
    (step : ∀ i d acc s c, ds[i]? = some d → P i acc s c → ∃ s1, g d s = some s1 ∧ CtQ t m s1 c acc fun acc s c => P (i + 1) acc (swipe s vs) c) :
    ∀ (n i : Nat) (acc : List D) (s : SL) (c : CL), n + i = ds.length → P i acc s c → ∃ acc' s' c', cLoop (lkL ds) g t m vs fin (n + 1) i acc s c = .ok (.lst acc', true) (fin s') c' ∧ P ds.length acc' s' c'
  | 0, i, acc, s, c, hn, p => by
    have e : lkL ds i s c = some none := by
      show some ds[i]? = some none
      rw [List.getElem?_eq_none (by omega)]
    refine ⟨acc, s, c, ?_, ?_⟩
    · unfold cLoop
      rw [e]
    · have : i = ds.length := by omega
      rw [← this]
      exact p
  | n + 1, i, acc, s, c, hn, p => by
    have hi : i < ds.length := by omega
    have e : lkL ds i s c = some (some ds[i]) := by
      show some ds[i]? = some (some ds[i])
      rw [List.getElem?_eq_getElem hi]
    obtain ⟨s1, e1, h⟩ := step i ds[i] acc s c (List.getElem?_eq_getElem hi) p
    rcases h with ⟨s2, c2, h1, p2⟩ | ⟨s2, c2, d, b, s3, c3, h1, h2, hz, p2⟩
    · obtain ⟨acc', s', c', r1, r2⟩ := cLoop_go (fin := fin) P step n (i + 1) acc (swipe s2 vs) c2 (by omega) p2
      refine ⟨acc', s', c', ?_, r2⟩
      rw [← r1]
      conv => lhs; unfold cLoop
      simp only [e, e1, h1, Ot.sure, b_ok, Bool.false_eq_true, if_false]
    · obtain ⟨acc', s', c', r1, r2⟩ := cLoop_go (fin := fin) P step n (i + 1) (acc ++ [d]) (swipe s3 vs) c3 (by omega) p2
      refine ⟨acc', s', c', ?_, r2⟩
      rw [← r1]
      conv => lhs; unfold cLoop
      simp only [e, e1, h1, h2, Ot.sure, b_ok, if_true, hz]
theorem mLc_go {mi : MI} {g : MG} {t : MT} {m : ME} {vs : List Nat} {s s1 : SL} {c c1 : CL} {ds : List D} (hm : mi s c = .ok (ds.length + 1, lkL ds) s1 c1) (P : Nat → List D → SL → CL → Prop) (h0 : P 0 [] (swipe s1 vs) c1)
    (step : ∀ i d acc s c, ds[i]? = some d → P i acc s c → ∃ s1, g d s = some s1 ∧ CtQ t m s1 c acc fun acc s c => P (i + 1) acc (swipe s vs) c) :
    ∃ acc' s' c', mLc mi g t m vs s c = .ok (.lst acc', true) (srest s1 s' vs) c' ∧ P ds.length acc' s' c' := by
  unfold mLc
  rw [hm]
  exact cLoop_go (fin := fun s2 => srest s1 s2 vs) P step ds.length 0 [] _ c1 (by omega) h0
/-- a comprehension that changes nothing: p the test, q the item -/
theorem mLc_pure {mi : MI} {g : MG} {t : MT} {m : ME} {vs : List Nat} {s s1 : SL} {c c1 : CL} {ds : List D} {p : D → Bool} {q : D → D} (hm : mi s c = .ok (ds.length + 1, lkL ds) s1 c1) (hz : ds.length ≤ sizeLine)
    (step : ∀ d, d ∈ ds → ∃ s2, g d (swipe s1 vs) = some s2 ∧ swipe s2 vs = swipe s1 vs ∧ t s2 c1 = .ok (p d) s2 c1 ∧ (p d = true → ∃ b, m s2 c1 = .ok (q d, b) s2 c1)) :
    mLc mi g t m vs s c = .ok (.lst ((ds.filter p).map q), true) (srest s1 (swipe s1 vs) vs) c1 := by
  obtain ⟨acc, s', c', h1, h2, h3, h4⟩ := mLc_go (vs := vs) (t := t) (m := m) (g := g) hm (fun i acc s c => s = swipe s1 vs ∧ c = c1 ∧ acc = ((ds.take i).filter p).map q) ⟨rfl, rfl, rfl⟩ (fun i d acc s c hd ⟨e1, e2, e3⟩ => by
    subst e1 e2 e3
    have hi := (List.getElem?_eq_some_iff.mp hd).1
    have tk : ds.take (i + 1) = ds.take i ++ [d] := by
      rw [List.take_succ, hd]
      rfl
    obtain ⟨s2, k1, k2, k3, k4⟩ := step d (List.mem_of_getElem? hd)
    refine ⟨s2, k1, ?_⟩
    cases hp : p d with
    | false =>
      rw [hp] at k3
      exact .inl ⟨s2, c, k3, k2, rfl, by rw [tk, List.filter_append, List.filter_cons_of_neg (by simp [hp])]; simp⟩
    | true =>
      rw [hp] at k3
      obtain ⟨b, k5⟩ := k4 hp
      refine .inr ⟨s2, c, q d, b, s2, c, k3, k5, ?_, k2, rfl, by rw [tk, List.filter_append, List.filter_cons_of_pos hp]; simp⟩
      have a1 := List.length_filter_le p (ds.take i)
      have a2 := List.length_take_le i ds
      simp only [List.length_map]
      have a3 : (ds.take i).length ≤ i := by rw [List.length_take]; omega
      omega)
  subst h2 h3 h4
  rw [h1, List.take_length]
/-- walks -/
theorem iAny_l {m : MO} {s s1 : SL} {c c1 : CL} {ds : List D} (h : m s c = .ok (.dv (.lst ds)) s1 c1) : iAny m s c = .ok (ds.length + 1, lkL ds) s1 c1 := by unfold iAny; rw [h]; rfl
theorem iAny_r {m : MO} {s s1 : SL} {c c1 : CL} {ds : List D} (h : m s c = .ok (.dv (.rol ds)) s1 c1) : iAny m s c = .ok (ds.length + 1, lkL ds) s1 c1 := by unfold iAny; rw [h]; rfl
theorem iAny_t {m : MO} {s s1 : SL} {c c1 : CL} {ds : List D} (h : m s c = .ok (.dv (.tup ds)) s1 c1) : iAny m s c = .ok (ds.length + 1, lkL ds) s1 c1 := by unfold iAny; rw [h]; rfl
theorem iAny_s {m : MO} {s s1 : SL} {c c1 : CL} {x : Str} (h : m s c = .ok (.dv (.str x)) s1 c1) : iAny m s c = .ok ((chrs x).length + 1, lkL (chrs x)) s1 c1 := by unfold iAny; rw [h]; rfl
theorem iRng1_e {m : MA} {s s1 : SL} {c c1 : CL} {ods : List Od} {j : Int} (h : m s c = .ok ods s1 c1) (hg : getAll s1 c1 ods = some [.int j]) (h1 : -(2 ^ 62) ≤ j ∧ j < 2 ^ 62) : iRng1 m s c = .ok ((rngD 0 j.toNat).length + 1, lkL (rngD 0 j.toNat)) s1 c1 := by
  unfold iRng1
  rw [h]
  show kRng1 (getAll s1 c1 ods) s1 c1 = _
  rw [hg]
  show (if -(2 ^ 62) ≤ j ∧ j < 2 ^ 62 then Ot.ok ((rngD 0 j.toNat).length + 1, lkL (rngD 0 j.toNat)) s1 c1 else .bad) = _
  rw [if_pos h1]
theorem iRng2_e {m : MA} {s s1 : SL} {c c1 : CL} {ods : List Od} {i j : Int} (h : m s c = .ok ods s1 c1) (hg : getAll s1 c1 ods = some [.int i, .int j]) (h1 : -(2 ^ 62) ≤ i ∧ i < 2 ^ 62 ∧ -(2 ^ 62) ≤ j ∧ j < 2 ^ 62) : iRng2 m s c = .ok ((rngD i (j - i).toNat).length + 1, lkL (rngD i (j - i).toNat)) s1 c1 := by
  unfold iRng2
  rw [h]
  show kRng2 (getAll s1 c1 ods) s1 c1 = _
  rw [hg]
  show (if -(2 ^ 62) ≤ i ∧ i < 2 ^ 62 ∧ -(2 ^ 62) ≤ j ∧ j < 2 ^ 62 then Ot.ok ((rngD i (j - i).toNat).length + 1, lkL (rngD i (j - i).toNat)) s1 c1 else .bad) = _
  rw [if_pos h1]
theorem iZp_e {m : MA} {s s1 : SL} {c c1 : CL} {ods : List Od} {xs ys : List D} (h : m s c = .ok ods s1 c1) (hg : valsOf ods = some [.lst xs, .lst ys]) : iZp m s c = .ok ((zipD xs ys).length + 1, lkL (zipD xs ys)) s1 c1 := by
  unfold iZp
  rw [h]
  show kZip (valsOf ods) s1 c1 = _
  rw [hg]
  rfl
theorem iEnm_e {m : MA} {s s1 : SL} {c c1 : CL} {ods : List Od} {xs : List D} (h : m s c = .ok ods s1 c1) (hg : valsOf ods = some [.lst xs]) : iEnm m s c = .ok ((enumD xs).length + 1, lkL (enumD xs)) s1 c1 := by
  unfold iEnm
  rw [h]
  show kEnum (valsOf ods) s1 c1 = _
  rw [hg]
  rfl
/-! ### places -/
theorem ixN_n {n j : Nat} (h : j < n) : ixN n (j : Int) = some j := by
  unfold ixN
  rw [if_pos (by omega), if_pos (by omega)]
  simp
theorem atI_n {α : Type} {xs : List α} {j : Nat} {x : α} (h : xs[j]? = some x) : atI xs (j : Int) = some x := by
  unfold atI
  rw [ixN_n (List.getElem?_eq_some_iff.mp h).1]
  exact h
theorem ix0 {xs : List D} {x : D} : atI (x :: xs) 0 = some x := atI_n (j := 0) rfl
theorem ix1 {xs : List D} {x y : D} : atI (x :: y :: xs) 1 = some y := atI_n (j := 1) rfl
theorem ix2 {xs : List D} {x y z : D} : atI (x :: y :: z :: xs) 2 = some z := atI_n (j := 2) rfl
theorem ix3 {xs : List D} {x y z u : D} : atI (x :: y :: z :: u :: xs) 3 = some u := atI_n (j := 3) rfl
theorem ix4 {xs : List D} {x y z u v : D} : atI (x :: y :: z :: u :: v :: xs) 4 = some v := atI_n (j := 4) rfl
theorem cdiv {i j : Int} (h : 0 < j) (h2 : j.natAbs.log2 < 9000) : CDivW i j := ⟨h, h2⟩
theorem cmulR {i j : Int} (h : -(2 ^ 64) < j ∧ j < 2 ^ 64) : CMulS i j := .inl (.inr h)
theorem cmulL {i j : Int} (h : -(2 ^ 64) < i ∧ i < 2 ^ 64) : CMulS i j := .inl (.inl h)
end EV

set_option Elab.async false
set_option linter.all false
set_option maxRecDepth 100000
set_option maxHeartbeats 0
namespace KW
open PySem PySem.Spec L2 EV
open PyProof.Rows hiding St
def top (i : Nat) : Stmt := PySem.Challenge.pw_firstdecides_k01_words_and_marks.main.body.getD i (.Pass ⟨0, 0, 0, 0⟩)
def w_nth_mark_1 (s : SL) (c : CL) : Nat := match s[2]? with
  | some (EV.SV.fz (EV.D.int i)) => i.toNat + 1
  | _ => 0

def N__law_bag : List Str := ["_law_script", "_law_mixed_here", "_law_piled"]
def m__law_bag : MS := (sSeq (sSet 1 (mCon (.int 12034))) (sSeq (sFor (iAny (mOf (mCut (mBw 0) pNone (pSome (mCon (.int 63)))))) (gN 2) (sSet 1 (m2 dMod (mOf (mCB dInt (aCons (mOf (m2 dAdd (mOf (m2 dAdd (mOf (m2 dMul (mBw 1) (mOf (mCon (.int 48271))))) (mOf (m2 dMul (mOf (m2 dMod (mOf (mCB dInt (aCons (mBw 2) aNil))) (mOf (mCon (.int 1000639))))) (mOf (mCon (.int 907))))))) (mOf (mCon (.int 61))))) aNil))) (mOf (mCon (.int 2147483579)))))) (sRet (mVals dDispL (aCons (mOf (mCB dList (aCons (mOf (mCut (mBw 0) pNone (pSome (mCon (.int 63))))) aNil))) (aCons (mOf (mCon (.int 0))) (aCons (mOf (mCon (.int 0))) (aCons (mOf (mVar 1)) (aCons (mOf (mCon (.int 0))) aNil)))))))))
def f__law_bag : FM := fM 3 m__law_bag
theorem nd__law_bag : N__law_bag.Nodup := by decide +kernel
theorem sc__law_bag : FnScope N__law_bag ["_law_script"] (defScope (top 12)) := ⟨rfl, rfl, rfl, nd__law_bag, rfl, by decide +kernel, by decide +kernel⟩
theorem ok__law_bag {P : Program} {w : World} {mg : Str → Option Value} {base : Heap} {G : Gp} {k : Nat} {a : Addr} {fd : FuncData} (g : mg "_law_bag" = some (.ref a)) (F : FunD G.K "_law_bag" "_law_bag" (defArgs (top 12)) (defBody (top 12)) (defScope (top 12)) [] [] a fd)
    (g_int : mg "int" = none)
    (g_list : mg "list" = none) : Fn P w mg base G (k + 1) "_law_bag" (top 12) ["_law_script"] f__law_bag := by
  refine fn_mk (N := N__law_bag) (m := m__law_bag) g F sc__law_bag (fun _ _ _ _ _ _ us hl => match us, hl with | [_], _ => rfl) ?_
  intro cdv A outer s H E hr H0 F0 R0
  have hu := hr.units
  have nd := nd__law_bag
  exact (vs_cons (vs_set nd (i := 1) rfl (.inl rfl) (ve_con pe_int (fun _ _ => .int _))) (vs_cons (vs_for PassesOwn.never rfl (vi_any rfl (vo_of (ve_cut rfl (vo_bw (pv 0)) vp_none (vp_some (ve_con pe_int (fun _ _ => .int _)))))) (vg_name nd (i := 2) rfl (.inl rfl)) (vs_one (vs_set nd (i := 1) rfl (.inl rfl) (ve_bin op_mod ops_mod (vo_of (ve_callTy call_int1 cs_int rfl g_int bt_int rfl (va_cons rfl (vo_of (ve_bin op_addA ops_add (vo_of (ve_bin op_addA ops_add (vo_of (ve_bin op_mulA ops_mul (vo_bw (pv 1)) (vo_of (ve_con pe_int (fun _ _ => .int _))))) (vo_of (ve_bin op_mulA ops_mul (vo_of (ve_bin op_mod ops_mod (vo_of (ve_callTy call_int1 cs_int rfl g_int bt_int rfl (va_cons rfl (vo_bw (pv 2)) va_nil) (by decide) (by decide))) (vo_of (ve_con pe_int (fun _ _ => .int _))))) (vo_of (ve_con pe_int (fun _ _ => .int _))))))) (vo_of (ve_con pe_int (fun _ _ => .int _))))) va_nil) (by decide) (by decide))) (vo_of (ve_con pe_int (fun _ _ => .int _))))))) (vs_one (vs_ret (ve_lst (va_cons rfl (vo_of (ve_callTy call_list_of cs_list rfl g_list bt_list rfl (va_cons rfl (vo_of (ve_cut rfl (vo_bw (pv 0)) vp_none (vp_some (ve_con pe_int (fun _ _ => .int _))))) va_nil) (by decide) (by decide))) (va_cons rfl (vo_of (ve_con pe_int (fun _ _ => .int _))) (va_cons rfl (vo_of (ve_con pe_int (fun _ _ => .int _))) (va_cons rfl (vo_of (ve_var (pv 1))) (va_cons rfl (vo_of (ve_con pe_int (fun _ _ => .int _))) va_nil))))))))))
def N__law_draw : List Str := ["_law_bag_here", "_law_sides", "_law_piled", "_law_digit", "_law_seed"]
def m__law_draw : MS := (sSeq (sPut 0 (m2 dAdd (mOf (m2 dIx (mBw 0) (mOf (mCon (.int 4))))) (mOf (mCon (.int 1)))) (mOf (mCon (.int 4)))) (sSeq (sIf (tAndM (mT (m2 dEq (mOf (m2 dIx (mBw 0) (mOf (mCon (.int 2))))) (mOf (mCon (.int 0))))) (mT (m2 dLt (mOf (m2 dIx (mBw 0) (mOf (mCon (.int 1))))) (mOf (mCB dLen (aCons (mOf (m2 dIx (mBw 0) (mOf (mCon (.int 0))))) aNil)))))) (sSeq (sSet 2 (mCB dInt (aCons (mOf (m2 dIx (mOf (m2 dIx (mBw 0) (mOf (mCon (.int 0))))) (mOf (m2 dIx (mBw 0) (mOf (mCon (.int 1))))))) aNil))) (sSeq (sPut 0 (m2 dAdd (mOf (m2 dIx (mBw 0) (mOf (mCon (.int 1))))) (mOf (mCon (.int 1)))) (mOf (mCon (.int 1)))) (sIf (mT (m2 dGe (mOf (mCB dAbs (aCons (mBw 2) aNil))) (mOf (m2 dPow (mOf (mCon (.int 10))) (mOf (mCon (.int 18))))))) (sPut 0 (mCB dAbs (aCons (mBw 2) aNil)) (mOf (mCon (.int 2)))) (sPut 0 (m2 dMod (mOf (mCB dInt (aCons (mOf (m2 dAdd (mOf (m2 dAdd (mOf (m2 dMul (mOf (m2 dIx (mBw 0) (mOf (mCon (.int 3))))) (mOf (mCon (.int 43889))))) (mOf (m2 dMul (mOf (m2 dMod (mOf (mCB dInt (aCons (mBw 2) aNil))) (mOf (mCon (.int 1000639))))) (mOf (mCon (.int 787))))))) (mOf (mCon (.int 31))))) aNil))) (mOf (mCon (.int 2147483587)))) (mOf (mCon (.int 3))))))) sNx) (sSeq (sIf (mT (m2 dGt (mOf (m2 dIx (mBw 0) (mOf (mCon (.int 2))))) (mOf (mCon (.int 0))))) (sSeq (sSet 3 (m2 dMod (mOf (mCB dInt (aCons (mOf (m2 dIx (mBw 0) (mOf (mCon (.int 2))))) aNil))) (mBw 1))) (sSeq (sPut 0 (m2 dDiv (mOf (m2 dIx (mBw 0) (mOf (mCon (.int 2))))) (mBw 1)) (mOf (mCon (.int 2)))) (sRet (mMov 3)))) sNx) (sSeq (sSet 4 (mCB dInt (aCons (mOf (m2 dIx (mBw 0) (mOf (mCon (.int 3))))) aNil))) (sSeq (sPut 0 (m2 dMod (mOf (mCB dInt (aCons (mOf (m2 dAdd (mOf (m2 dAdd (mOf (m2 dAdd (mOf (m2 dMul (mOf (m2 dMul (mBw 4) (mBw 4))) (mOf (mCon (.int 23))))) (mOf (m2 dMul (mBw 4) (mOf (mCon (.int 47111))))))) (mOf (m2 dMul (mOf (m2 dIx (mBw 0) (mOf (mCon (.int 4))))) (mOf (mCon (.int 110323))))))) (mOf (mCon (.int 60089))))) aNil))) (mOf (mCon (.int 2147483549)))) (mOf (mCon (.int 3)))) (sRet (m2 dMod (mOf (mCB dInt (aCons (mOf (m2 dAdd (mOf (m2 dDiv (mOf (m2 dIx (mBw 0) (mOf (mCon (.int 3))))) (mOf (mCon (.int 73))))) (mOf (m2 dMul (mOf (m2 dMod (mOf (mCB dInt (aCons (mOf (m2 dIx (mBw 0) (mOf (mCon (.int 3))))) aNil))) (mOf (mCon (.int 8017))))) (mOf (mCon (.int 61))))))) aNil))) (mBw 1))))))))
def f__law_draw : FM := fM 5 m__law_draw
theorem nd__law_draw : N__law_draw.Nodup := by decide +kernel
theorem sc__law_draw : FnScope N__law_draw ["_law_bag_here", "_law_sides"] (defScope (top 13)) := ⟨rfl, rfl, rfl, nd__law_draw, rfl, by decide +kernel, by decide +kernel⟩
theorem ok__law_draw {P : Program} {w : World} {mg : Str → Option Value} {base : Heap} {G : Gp} {k : Nat} {a : Addr} {fd : FuncData} (g : mg "_law_draw" = some (.ref a)) (F : FunD G.K "_law_draw" "_law_draw" (defArgs (top 13)) (defBody (top 13)) (defScope (top 13)) [] [] a fd)
    (g_abs : mg "abs" = none)
    (g_int : mg "int" = none)
    (g_len : mg "len" = none) : Fn P w mg base G (k + 1) "_law_draw" (top 13) ["_law_bag_here", "_law_sides"] f__law_draw := by
  refine fn_mk (N := N__law_draw) (m := m__law_draw) g F sc__law_draw (fun _ _ _ _ _ _ us hl => match us, hl with | [_, _], _ => rfl) ?_
  intro cdv A outer s H E hr H0 F0 R0
  have hu := hr.units
  have nd := nd__law_draw
  exact (vs_cons (vs_put (ve_bin op_addA ops_add (vo_of (ve_ix rfl rfl (vo_bw (pv 0)) (vo_of (ve_con pe_int (fun _ _ => .int _))))) (vo_of (ve_con pe_int (fun _ _ => .int _)))) (pv 0) (vo_of (ve_con pe_int (fun _ _ => .int _)))) (vs_cons (vs_if (PW.pt (vw_and (vt_cmp (op_eqA hu) ops_eq (vo_of (ve_ix rfl rfl (vo_bw (pv 0)) (vo_of (ve_con pe_int (fun _ _ => .int _))))) (vo_of (ve_con pe_int (fun _ _ => .int _))) (nomark _)) (vw_and1 (vt_cmp op_ltA ops_lt (vo_of (ve_ix rfl rfl (vo_bw (pv 0)) (vo_of (ve_con pe_int (fun _ _ => .int _))))) (vo_of (ve_callB cr_lenA cs_len rfl g_len bt_len rfl (va_cons rfl (vo_of (ve_ix rfl rfl (vo_bw (pv 0)) (vo_of (ve_con pe_int (fun _ _ => .int _))))) va_nil) (by decide) (by decide))) (nomark _))))) (vs_cons (vs_set nd (i := 2) rfl (.inl rfl) (ve_callTy call_int1 cs_int rfl g_int bt_int rfl (va_cons rfl (vo_of (ve_ix rfl rfl (vo_of (ve_ix rfl rfl (vo_bw (pv 0)) (vo_of (ve_con pe_int (fun _ _ => .int _))))) (vo_of (ve_ix rfl rfl (vo_bw (pv 0)) (vo_of (ve_con pe_int (fun _ _ => .int _))))))) va_nil) (by decide) (by decide))) (vs_cons (vs_put (ve_bin op_addA ops_add (vo_of (ve_ix rfl rfl (vo_bw (pv 0)) (vo_of (ve_con pe_int (fun _ _ => .int _))))) (vo_of (ve_con pe_int (fun _ _ => .int _)))) (pv 0) (vo_of (ve_con pe_int (fun _ _ => .int _)))) (vs_one (vs_if (vt_cmp op_ge ops_ge (vo_of (ve_callB call_abs cs_abs rfl g_abs bt_abs rfl (va_cons rfl (vo_bw (pv 2)) va_nil) (by decide) (by decide))) (vo_of (ve_bin op_pow ops_pow (vo_of (ve_con pe_int (fun _ _ => .int _))) (vo_of (ve_con pe_int (fun _ _ => .int _))))) (nomark _)) (vs_one (vs_put (ve_callB call_abs cs_abs rfl g_abs bt_abs rfl (va_cons rfl (vo_bw (pv 2)) va_nil) (by decide) (by decide)) (pv 0) (vo_of (ve_con pe_int (fun _ _ => .int _))))) (vs_one (vs_put (ve_bin op_mod ops_mod (vo_of (ve_callTy call_int1 cs_int rfl g_int bt_int rfl (va_cons rfl (vo_of (ve_bin op_addA ops_add (vo_of (ve_bin op_addA ops_add (vo_of (ve_bin op_mulA ops_mul (vo_of (ve_ix rfl rfl (vo_bw (pv 0)) (vo_of (ve_con pe_int (fun _ _ => .int _))))) (vo_of (ve_con pe_int (fun _ _ => .int _))))) (vo_of (ve_bin op_mulA ops_mul (vo_of (ve_bin op_mod ops_mod (vo_of (ve_callTy call_int1 cs_int rfl g_int bt_int rfl (va_cons rfl (vo_bw (pv 2)) va_nil) (by decide) (by decide))) (vo_of (ve_con pe_int (fun _ _ => .int _))))) (vo_of (ve_con pe_int (fun _ _ => .int _))))))) (vo_of (ve_con pe_int (fun _ _ => .int _))))) va_nil) (by decide) (by decide))) (vo_of (ve_con pe_int (fun _ _ => .int _)))) (pv 0) (vo_of (ve_con pe_int (fun _ _ => .int _))))))))) vs_nil) (vs_cons (vs_if (vt_cmp op_gt ops_gt (vo_of (ve_ix rfl rfl (vo_bw (pv 0)) (vo_of (ve_con pe_int (fun _ _ => .int _))))) (vo_of (ve_con pe_int (fun _ _ => .int _))) (nomark _)) (vs_cons (vs_set nd (i := 3) rfl (.inl rfl) (ve_bin op_mod ops_mod (vo_of (ve_callTy call_int1 cs_int rfl g_int bt_int rfl (va_cons rfl (vo_of (ve_ix rfl rfl (vo_bw (pv 0)) (vo_of (ve_con pe_int (fun _ _ => .int _))))) va_nil) (by decide) (by decide))) (vo_bw (pv 1)))) (vs_cons (vs_put (ve_bin op_fdivW ops_div (vo_of (ve_ix rfl rfl (vo_bw (pv 0)) (vo_of (ve_con pe_int (fun _ _ => .int _))))) (vo_bw (pv 1))) (pv 0) (vo_of (ve_con pe_int (fun _ _ => .int _)))) (vs_one (vs_ret (ve_mov (pv 3)))))) vs_nil) (vs_cons (vs_set nd (i := 4) rfl (.inl rfl) (ve_callTy call_int1 cs_int rfl g_int bt_int rfl (va_cons rfl (vo_of (ve_ix rfl rfl (vo_bw (pv 0)) (vo_of (ve_con pe_int (fun _ _ => .int _))))) va_nil) (by decide) (by decide))) (vs_cons (vs_put (ve_bin op_mod ops_mod (vo_of (ve_callTy call_int1 cs_int rfl g_int bt_int rfl (va_cons rfl (vo_of (ve_bin op_addA ops_add (vo_of (ve_bin op_addA ops_add (vo_of (ve_bin op_addA ops_add (vo_of (ve_bin op_mulA ops_mul (vo_of (ve_bin op_mulA ops_mul (vo_bw (pv 4)) (vo_bw (pv 4)))) (vo_of (ve_con pe_int (fun _ _ => .int _))))) (vo_of (ve_bin op_mulA ops_mul (vo_bw (pv 4)) (vo_of (ve_con pe_int (fun _ _ => .int _))))))) (vo_of (ve_bin op_mulA ops_mul (vo_of (ve_ix rfl rfl (vo_bw (pv 0)) (vo_of (ve_con pe_int (fun _ _ => .int _))))) (vo_of (ve_con pe_int (fun _ _ => .int _))))))) (vo_of (ve_con pe_int (fun _ _ => .int _))))) va_nil) (by decide) (by decide))) (vo_of (ve_con pe_int (fun _ _ => .int _)))) (pv 0) (vo_of (ve_con pe_int (fun _ _ => .int _)))) (vs_one (vs_ret (ve_bin op_mod ops_mod (vo_of (ve_callTy call_int1 cs_int rfl g_int bt_int rfl (va_cons rfl (vo_of (ve_bin op_addA ops_add (vo_of (ve_bin op_fdivW ops_div (vo_of (ve_ix rfl rfl (vo_bw (pv 0)) (vo_of (ve_con pe_int (fun _ _ => .int _))))) (vo_of (ve_con pe_int (fun _ _ => .int _))))) (vo_of (ve_bin op_mulA ops_mul (vo_of (ve_bin op_mod ops_mod (vo_of (ve_callTy call_int1 cs_int rfl g_int bt_int rfl (va_cons rfl (vo_of (ve_ix rfl rfl (vo_bw (pv 0)) (vo_of (ve_con pe_int (fun _ _ => .int _))))) va_nil) (by decide) (by decide))) (vo_of (ve_con pe_int (fun _ _ => .int _))))) (vo_of (ve_con pe_int (fun _ _ => .int _))))))) va_nil) (by decide) (by decide))) (vo_bw (pv 1))))))))))
def N__law_of : List Str := ["_law_bag_here", "_law_things_here"]
def m__law_of : MS := (sRet (m2 dIx (mBw 1) (mOf (mFn 2 f__law_draw (aCons (mOf (mVar 0)) (aCons (mOf (mCB dLen (aCons (mBw 1) aNil))) aNil))))))
def f__law_of : FM := fM 2 m__law_of
theorem nd__law_of : N__law_of.Nodup := by decide +kernel
theorem sc__law_of : FnScope N__law_of ["_law_bag_here", "_law_things_here"] (defScope (top 14)) := ⟨rfl, rfl, rfl, nd__law_of, rfl, by decide +kernel, by decide +kernel⟩
theorem ok__law_of {P : Program} {w : World} {mg : Str → Option Value} {base : Heap} {G : Gp} {k : Nat} {a : Addr} {fd : FuncData} (g : mg "_law_of" = some (.ref a)) (F : FunD G.K "_law_of" "_law_of" (defArgs (top 14)) (defBody (top 14)) (defScope (top 14)) [] [] a fd)
    (g_len : mg "len" = none)
    (h__law_draw : Fn P w mg base G k "_law_draw" (top 13) ["_law_bag_here", "_law_sides"] f__law_draw) : Fn P w mg base G (k + 1) "_law_of" (top 14) ["_law_bag_here", "_law_things_here"] f__law_of := by
  refine fn_mk (N := N__law_of) (m := m__law_of) g F sc__law_of (fun _ _ _ _ _ _ us hl => match us, hl with | [_, _], _ => rfl) ?_
  intro cdv A outer s H E hr H0 F0 R0
  have hu := hr.units
  have nd := nd__law_of
  exact (vs_one (vs_ret (ve_ix rfl rfl (vo_bw (pv 1)) (vo_of (ve_fn h__law_draw rfl hr rfl (va_cons rfl (vo_of (ve_var (pv 0))) (va_cons rfl (vo_of (ve_callB cr_lenA cs_len rfl g_len bt_len rfl (va_cons rfl (vo_bw (pv 1)) va_nil) (by decide) (by decide))) va_nil)) rfl)))))
def N__law_odd : List Str := ["_law_bag_here", "_law_more"]
def m__law_odd : MS := (sRet (mFn 2 f__law_of (aCons (mOf (mVar 0)) (aCons (mOf (m2 dAdd (mOf (mVals dDispL (aCons (mOf (mCon .non)) (aCons (mOf (mCon (.bool true))) (aCons (mOf (mCon (.bool false))) (aCons (mOf (mCon (.str ""))) (aCons (mOf (mCon (.str "A"))) (aCons (mOf (m1 dNeg (mOf (mCon (.int 1))))) (aCons (mOf (mCon (.int 999999999))) (aCons (mOf (mVals dDispT aNil)) (aCons (mOf (mVals dDispL aNil)) (aCons (mOf (mVals dDispT (aCons (mOf (mCon (.int 1))) aNil))) (aCons (mOf (mVals dDispL (aCons (mOf (mCon (.str "a"))) aNil))) (aCons (mOf (mCon (.str "a b"))) (aCons (mOf (mCon (.str "abcdefg"))) (aCons (mOf (mVals dDispT (aCons (mOf (mCon (.str "a"))) (aCons (mOf (mCon (.str "b"))) aNil)))) (aCons (mOf (mVals dDispL (aCons (mOf (mCon .non)) aNil))) aNil))))))))))))))))) (mBw 1))) aNil))))
def f__law_odd : FM := fM 2 m__law_odd
theorem nd__law_odd : N__law_odd.Nodup := by decide +kernel
theorem sc__law_odd : FnScope N__law_odd ["_law_bag_here", "_law_more"] (defScope (top 17)) := ⟨rfl, rfl, rfl, nd__law_odd, rfl, by decide +kernel, by decide +kernel⟩
theorem ok__law_odd {P : Program} {w : World} {mg : Str → Option Value} {base : Heap} {G : Gp} {k : Nat} {a : Addr} {fd : FuncData} (g : mg "_law_odd" = some (.ref a)) (F : FunD G.K "_law_odd" "_law_odd" (defArgs (top 17)) (defBody (top 17)) (defScope (top 17)) [] [] a fd)
    (h__law_of : Fn P w mg base G k "_law_of" (top 14) ["_law_bag_here", "_law_things_here"] f__law_of) : Fn P w mg base G (k + 1) "_law_odd" (top 17) ["_law_bag_here", "_law_more"] f__law_odd := by
  refine fn_mk (N := N__law_odd) (m := m__law_odd) g F sc__law_odd (fun _ _ _ _ _ _ us hl => match us, hl with | [_, _], _ => rfl) ?_
  intro cdv A outer s H E hr H0 F0 R0
  have hu := hr.units
  have nd := nd__law_odd
  exact (vs_one (vs_ret (ve_fn h__law_of rfl hr rfl (va_cons rfl (vo_of (ve_var (pv 0))) (va_cons rfl (vo_of (ve_bin op_addA ops_add (vo_of (ve_lst (va_cons rfl (vo_of (ve_con pe_non (fun _ _ => .non))) (va_cons rfl (vo_of (ve_con pe_bl (fun _ _ => .bool _))) (va_cons rfl (vo_of (ve_con pe_bl (fun _ _ => .bool _))) (va_cons rfl (vo_of (ve_con pe_str (fun _ _ => .str _))) (va_cons rfl (vo_of (ve_con pe_str (fun _ _ => .str _))) (va_cons rfl (vo_of (ve_neg (vo_of (ve_con pe_int (fun _ _ => .int _))))) (va_cons rfl (vo_of (ve_con pe_int (fun _ _ => .int _))) (va_cons rfl (vo_of (ve_tup va_nil)) (va_cons rfl (vo_of (ve_lst va_nil)) (va_cons rfl (vo_of (ve_tup (va_cons rfl (vo_of (ve_con pe_int (fun _ _ => .int _))) va_nil))) (va_cons rfl (vo_of (ve_lst (va_cons rfl (vo_of (ve_con pe_str (fun _ _ => .str _))) va_nil))) (va_cons rfl (vo_of (ve_con pe_str (fun _ _ => .str _))) (va_cons rfl (vo_of (ve_con pe_str (fun _ _ => .str _))) (va_cons rfl (vo_of (ve_tup (va_cons rfl (vo_of (ve_con pe_str (fun _ _ => .str _))) (va_cons rfl (vo_of (ve_con pe_str (fun _ _ => .str _))) va_nil)))) (va_cons rfl (vo_of (ve_lst (va_cons rfl (vo_of (ve_con pe_non (fun _ _ => .non))) va_nil))) va_nil))))))))))))))))) (vo_bw (pv 1)))) va_nil)) rfl)))
def N__law_whole : List Str := ["_law_thing"]
def m__law_whole : MS := (sRet (mAnd (m1 (dIsi .int) (mBw 0)) (mNot (m1 (dIsi .bool) (mBw 0)))))
def f__law_whole : FM := fM 1 m__law_whole
theorem nd__law_whole : N__law_whole.Nodup := by decide +kernel
theorem sc__law_whole : FnScope N__law_whole ["_law_thing"] (defScope (top 20)) := ⟨rfl, rfl, rfl, nd__law_whole, rfl, by decide +kernel, by decide +kernel⟩
theorem ok__law_whole {P : Program} {w : World} {mg : Str → Option Value} {base : Heap} {G : Gp} {k : Nat} {a : Addr} {fd : FuncData} (g : mg "_law_whole" = some (.ref a)) (F : FunD G.K "_law_whole" "_law_whole" (defArgs (top 20)) (defBody (top 20)) (defScope (top 20)) [] [] a fd)
    (g_bool : mg "bool" = none)
    (g_int : mg "int" = none)
    (g_isinstance : mg "isinstance" = none) : Fn P w mg base G (k + 1) "_law_whole" (top 20) ["_law_thing"] f__law_whole := by
  refine fn_mk (N := N__law_whole) (m := m__law_whole) g F sc__law_whole (fun _ _ _ _ _ _ us hl => match us, hl with | [_], _ => rfl) ?_
  intro cdv A outer s H E hr H0 F0 R0
  have hu := hr.units
  have nd := nd__law_whole
  exact (vs_one (vs_ret (ve_and (ve_isi (T := .int) rfl rfl g_isinstance (vo_bw (pv 0)) rfl (pe_ty rfl g_int bt_int)) (ve_one (ve_not (ve_isi (T := .bool) rfl rfl g_isinstance (vo_bw (pv 0)) rfl (pe_ty rfl g_bool bt_bool)))))))
def N__law_same : List Str := ["_law_found", "_law_due", "_law_x", "_law_y"]
def m__law_same (r : FM) : MS := (sSeq (sIf (tOrM (mT (m2 dIsN (mBw 1) (mOf (mCon .non)))) (mT (m2 dIsN (mBw 0) (mOf (mCon .non))))) (sRet (mAnd (m2 dIsN (mBw 1) (mOf (mCon .non))) (m2 dIsN (mBw 0) (mOf (mCon .non))))) sNx) (sSeq (sIf (mTru (mOf (m1 (dIsiT [.list, .tuple]) (mBw 1)))) (sSeq (sIf (mT (m2 dNe (mOf (m1 (dIsi .list) (mBw 0))) (mOf (m1 (dIsi .list) (mBw 1))))) (sRet (mCon (.bool false))) sNx) (sSeq (sIf (tOrM (mT (m2 dNe (mOf (m1 (dIsi .tuple) (mBw 0))) (mOf (m1 (dIsi .tuple) (mBw 1))))) (mT (m2 dNe (mOf (mCB dLen (aCons (mBw 0) aNil))) (mOf (mCB dLen (aCons (mBw 1) aNil)))))) (sRet (mCon (.bool false))) sNx) (sRet (mCB dAll (aCons (mOf (mLc (iZp (aCons (mOf (mVar 0)) (aCons (mOf (mVar 1)) aNil))) (gT 2 (gsCons (gN 2) (gsCons (gN 3) gsNil))) tYesM (mFn 2 r (aCons (mOf (mVar 2)) (aCons (mOf (mVar 3)) aNil))) [2, 3])) aNil))))) sNx) (sSeq (sIf (mT (m2 dNe (mOf (m1 (dIsi .bool) (mBw 1))) (mOf (m1 (dIsi .bool) (mBw 0))))) (sRet (mCon (.bool false))) sNx) (sSeq (sIf (mT (m2 dNe (mOf (m1 (dIsi .int) (mBw 1))) (mOf (m1 (dIsi .int) (mBw 0))))) (sRet (mCon (.bool false))) sNx) (sRet (mAnd (m2 dEq (mOf (m1 (dIsi .str) (mBw 1))) (mOf (m1 (dIsi .str) (mBw 0)))) (m2 dEq (mBw 0) (mBw 1))))))))
def f__law_same : Nat → FM
  | 0 => fun _ _ => .bad
  | n + 1 => fM 4 (m__law_same (f__law_same n))
theorem nd__law_same : N__law_same.Nodup := by decide +kernel
theorem sc__law_same : FnScope N__law_same ["_law_found", "_law_due"] (defScope (top 16)) := ⟨rfl, rfl, rfl, nd__law_same, rfl, by decide +kernel, by decide +kernel⟩
theorem ok__law_same {P : Program} {w : World} {mg : Str → Option Value} {base : Heap} {G : Gp} {k : Nat} {a : Addr} {fd : FuncData} {r : FM} (g : mg "_law_same" = some (.ref a)) (F : FunD G.K "_law_same" "_law_same" (defArgs (top 16)) (defBody (top 16)) (defScope (top 16)) [] [] a fd)
    (g_all : mg "all" = none)
    (g_bool : mg "bool" = none)
    (g_int : mg "int" = none)
    (g_isinstance : mg "isinstance" = none)
    (g_len : mg "len" = none)
    (g_list : mg "list" = none)
    (g_str : mg "str" = none)
    (g_tuple : mg "tuple" = none)
    (g_zip : mg "zip" = none)
    (h__law_same : Fn P w mg base G k "_law_same" (top 16) ["_law_found", "_law_due"] r) : Fn P w mg base G (k + 1) "_law_same" (top 16) ["_law_found", "_law_due"] (fM 4 (m__law_same r)) := by
  refine fn_mk (N := N__law_same) (m := (m__law_same r)) g F sc__law_same (fun _ _ _ _ _ _ us hl => match us, hl with | [_, _], _ => rfl) ?_
  intro cdv A outer s H E hr H0 F0 R0
  have hu := hr.units
  have nd := nd__law_same
  exact (vs_cons (vs_if (PW.pt (vw_or (vt_cmp op_isN ops_isN (vo_bw (pv 1)) (vo_of (ve_con pe_non (fun _ _ => .non))) (nomark _)) (vw_or1 (vt_cmp op_isN ops_isN (vo_bw (pv 0)) (vo_of (ve_con pe_non (fun _ _ => .non))) (nomark _))))) (vs_one (vs_ret (ve_and (ve_cmp op_isN ops_isN (vo_bw (pv 1)) (vo_of (ve_con pe_non (fun _ _ => .non))) (nomark _)) (ve_one (ve_cmp op_isN ops_isN (vo_bw (pv 0)) (vo_of (ve_con pe_non (fun _ _ => .non))) (nomark _)))))) vs_nil) (vs_cons (vs_if (vt_tru rfl rfl (vo_of (ve_isiT rfl rfl g_isinstance (vo_bw (pv 1)) rfl (.cons (T := .list) (pe_ty rfl g_list bt_list) (.cons (T := .tuple) (pe_ty rfl g_tuple bt_tuple) .nil)) (by decide)))) (vs_cons (vs_if (vt_cmp (op_neA hu) ops_ne (vo_of (ve_isi (T := .list) rfl rfl g_isinstance (vo_bw (pv 0)) rfl (pe_ty rfl g_list bt_list))) (vo_of (ve_isi (T := .list) rfl rfl g_isinstance (vo_bw (pv 1)) rfl (pe_ty rfl g_list bt_list))) (nomark _)) (vs_one (vs_ret (ve_con pe_bl (fun _ _ => .bool _)))) vs_nil) (vs_cons (vs_if (PW.pt (vw_or (vt_cmp (op_neA hu) ops_ne (vo_of (ve_isi (T := .tuple) rfl rfl g_isinstance (vo_bw (pv 0)) rfl (pe_ty rfl g_tuple bt_tuple))) (vo_of (ve_isi (T := .tuple) rfl rfl g_isinstance (vo_bw (pv 1)) rfl (pe_ty rfl g_tuple bt_tuple))) (nomark _)) (vw_or1 (vt_cmp (op_neA hu) ops_ne (vo_of (ve_callB cr_lenA cs_len rfl g_len bt_len rfl (va_cons rfl (vo_bw (pv 0)) va_nil) (by decide) (by decide))) (vo_of (ve_callB cr_lenA cs_len rfl g_len bt_len rfl (va_cons rfl (vo_bw (pv 1)) va_nil) (by decide) (by decide))) (nomark _))))) (vs_one (vs_ret (ve_con pe_bl (fun _ _ => .bool _)))) vs_nil) (vs_one (vs_ret (ve_callB (cr_all rfl) cs_all rfl g_all bt_all rfl (va_cons rfl (vo_of (ve_lc (own := [("_law_x", 2), ("_law_y", 3)]) rfl nd (vi_zip rfl rfl g_zip (va_cons rfl (vo_of (ve_var (pv 0))) (va_cons rfl (vo_of (ve_var (pv 1))) va_nil)) rfl rfl) (blkOk_by (own := [("_law_x", 2), ("_law_y", 3)]) (N := N__law_same) (sc := defScope (top 16)) (by decide +kernel)) (fun _ _ _ _ _ => (wg_tup (n := 2) rfl rfl (wg_cons (wg_name nd (i := 2) rfl (.inl rfl) (by decide)) (wg_cons (wg_name nd (i := 3) rfl (.inl rfl) (by decide)) wg_nil)))) (fun _ _ _ _ _ => ptsq_nil) (fun _ _ _ _ _ _ _ _ => (ve_fn h__law_same rfl hr rfl (va_cons rfl (vo_of (ve_var (pv 2))) (va_cons rfl (vo_of (ve_var (pv 3))) va_nil)) rfl)))) va_nil) (by decide) (by decide)))))) vs_nil) (vs_cons (vs_if (vt_cmp (op_neA hu) ops_ne (vo_of (ve_isi (T := .bool) rfl rfl g_isinstance (vo_bw (pv 1)) rfl (pe_ty rfl g_bool bt_bool))) (vo_of (ve_isi (T := .bool) rfl rfl g_isinstance (vo_bw (pv 0)) rfl (pe_ty rfl g_bool bt_bool))) (nomark _)) (vs_one (vs_ret (ve_con pe_bl (fun _ _ => .bool _)))) vs_nil) (vs_cons (vs_if (vt_cmp (op_neA hu) ops_ne (vo_of (ve_isi (T := .int) rfl rfl g_isinstance (vo_bw (pv 1)) rfl (pe_ty rfl g_int bt_int))) (vo_of (ve_isi (T := .int) rfl rfl g_isinstance (vo_bw (pv 0)) rfl (pe_ty rfl g_int bt_int))) (nomark _)) (vs_one (vs_ret (ve_con pe_bl (fun _ _ => .bool _)))) vs_nil) (vs_one (vs_ret (ve_and (ve_cmp (op_eqA hu) ops_eq (vo_of (ve_isi (T := .str) rfl rfl g_isinstance (vo_bw (pv 1)) rfl (pe_ty rfl g_str bt_str))) (vo_of (ve_isi (T := .str) rfl rfl g_isinstance (vo_bw (pv 0)) rfl (pe_ty rfl g_str bt_str))) (nomark _)) (ve_one (ve_cmp (op_eqA hu) ops_eq (vo_bw (pv 0)) (vo_bw (pv 1)) (nomark _))))))))))
def N_is_number : List Str := ["value", "least", "most"]
def m_is_number : MS := (sRet (mAnd (m1 (dIsi .int) (mBw 0)) (mAnd (mNot (m1 (dIsi .bool) (mBw 0))) (mChain dLe dLe (mBw 1) (mBw 0) (mBw 2)))))
def f_is_number : FM := fM 3 m_is_number
theorem nd_is_number : N_is_number.Nodup := by decide +kernel
theorem sc_is_number : FnScope N_is_number ["value", "least", "most"] (defScope (top 7)) := ⟨rfl, rfl, rfl, nd_is_number, rfl, by decide +kernel, by decide +kernel⟩
theorem ok_is_number {P : Program} {w : World} {mg : Str → Option Value} {base : Heap} {G : Gp} {k : Nat} {a : Addr} {fd : FuncData} (g : mg "is_number" = some (.ref a)) (F : FunD G.K "is_number" "is_number" (defArgs (top 7)) (defBody (top 7)) (defScope (top 7)) [] [] a fd)
    (g_bool : mg "bool" = none)
    (g_int : mg "int" = none)
    (g_isinstance : mg "isinstance" = none) : Fn P w mg base G (k + 1) "is_number" (top 7) ["value", "least", "most"] f_is_number := by
  refine fn_mk (N := N_is_number) (m := m_is_number) g F sc_is_number (fun _ _ _ _ _ _ us hl => match us, hl with | [_, _, _], _ => rfl) ?_
  intro cdv A outer s H E hr H0 F0 R0
  have hu := hr.units
  have nd := nd_is_number
  exact (vs_one (vs_ret (ve_and (ve_isi (T := .int) rfl rfl g_isinstance (vo_bw (pv 0)) rfl (pe_ty rfl g_int bt_int)) (ve_and (ve_not (ve_isi (T := .bool) rfl rfl g_isinstance (vo_bw (pv 0)) rfl (pe_ty rfl g_bool bt_bool))) (ve_one (ve_chain op_le op_le ops_le ops_le (vo_bw (pv 1)) (vo_bw (pv 0)) (vo_bw (pv 2)) rfl))))))
def N__law_numbers : List Str := ["_law_bag_here", "_law_low_y", "_law_high_y", "_law_thing", "_law_due"]
def m__law_numbers : MS := (sSeq (sSet 1 (mFn 2 f__law_of (aCons (mOf (mVar 0)) (aCons (mOf (mVals dDispL (aCons (mOf (mCon (.int 0))) (aCons (mOf (mCon (.int 1))) (aCons (mOf (m1 dNeg (mOf (mCon (.int 1))))) (aCons (mOf (m1 dNeg (mOf (mCon (.int 999999999))))) (aCons (mOf (m2 dSub (mOf (mFn 2 f__law_draw (aCons (mOf (mVar 0)) (aCons (mOf (mCon (.int 1000))) aNil)))) (mOf (mCon (.int 500))))) aNil))))))) aNil)))) (sSeq (sSet 2 (mFn 2 f__law_of (aCons (mOf (mVar 0)) (aCons (mOf (mVals dDispL (aCons (mOf (mVar 1)) (aCons (mOf (m2 dAdd (mBw 1) (mOf (mCon (.int 1))))) (aCons (mOf (mIf (mT (m2 dGt (mBw 1) (mOf (m1 dNeg (mOf (mCon (.int 999999999))))))) (m2 dSub (mBw 1) (mOf (mCon (.int 1)))) (mCon (.int 0)))) (aCons (mOf (mCon (.int 999999999))) (aCons (mOf (mFn 2 f__law_draw (aCons (mOf (mVar 0)) (aCons (mOf (mCon (.int 1000))) aNil)))) aNil))))))) aNil)))) (sSeq (sFor (iAny (mOf (mVals dDispL (aCons (mOf (mVar 1)) (aCons (mOf (mVar 2)) (aCons (mOf (m2 dAdd (mBw 1) (mOf (mCon (.int 1))))) (aCons (mOf (mCB dMax2 (aCons (mOf (m2 dSub (mBw 2) (mOf (mCon (.int 1))))) (aCons (mOf (m1 dNeg (mOf (mCon (.int 999999999))))) aNil)))) (aCons (mOf (mCon (.bool true))) (aCons (mOf (mCon (.bool false))) (aCons (mOf (mCon .non)) (aCons (mOf (mCB dStr (aCons (mBw 1) aNil))) (aCons (mOf (mVals dDispT (aCons (mOf (mVar 1)) aNil))) (aCons (mOf (mVals dDispL (aCons (mOf (mVar 2)) aNil))) (aCons (mOf (m2 dSub (mOf (mFn 2 f__law_draw (aCons (mOf (mVar 0)) (aCons (mOf (mCon (.int 1000))) aNil)))) (mOf (mCon (.int 500))))) (aCons (mOf (mFn 2 f__law_odd (aCons (mOf (mVar 0)) (aCons (mOf (mVals dDispL aNil)) aNil)))) aNil))))))))))))))) (gN 3) (sSeq (sSet 4 (mAnd (mFn 1 f__law_whole (aCons (mOf (mVar 3)) aNil)) (mAnd (m2 dLe (mBw 1) (mBw 3)) (m2 dLe (mBw 3) (mBw 2))))) (sIf (tNotM (mTru (mOf (mFn 2 (f__law_same 6) (aCons (mOf (mVals dDispL (aCons (mOf (mFn 3 f_is_number (aCons (mOf (mVar 3)) (aCons (mOf (mVar 1)) (aCons (mOf (mVar 2)) aNil))))) (aCons (mOf (mFnK 0 3 [1, 2, 0] f_is_number aNil (aCons (mOf (mVar 2)) (aCons (mOf (mVar 3)) (aCons (mOf (mVar 1)) aNil))))) aNil)))) (aCons (mOf (mVals dDispL (aCons (mOf (mVar 4)) (aCons (mOf (mVar 4)) aNil)))) aNil)))))) (sRet (mCon (.bool false))) sNx))) (sRet (mCon (.bool true))))))
def f__law_numbers : FM := fM 5 m__law_numbers
theorem nd__law_numbers : N__law_numbers.Nodup := by decide +kernel
theorem sc__law_numbers : FnScope N__law_numbers ["_law_bag_here"] (defScope (top 26)) := ⟨rfl, rfl, rfl, nd__law_numbers, rfl, by decide +kernel, by decide +kernel⟩
theorem ok__law_numbers {P : Program} {w : World} {mg : Str → Option Value} {base : Heap} {G : Gp} {k : Nat} {a : Addr} {fd : FuncData} (g : mg "_law_numbers" = some (.ref a)) (F : FunD G.K "_law_numbers" "_law_numbers" (defArgs (top 26)) (defBody (top 26)) (defScope (top 26)) [] [] a fd)
    (g_max : mg "max" = none)
    (g_str : mg "str" = none)
    (h__law_draw : Fn P w mg base G k "_law_draw" (top 13) ["_law_bag_here", "_law_sides"] f__law_draw)
    (h__law_odd : Fn P w mg base G k "_law_odd" (top 17) ["_law_bag_here", "_law_more"] f__law_odd)
    (h__law_of : Fn P w mg base G k "_law_of" (top 14) ["_law_bag_here", "_law_things_here"] f__law_of)
    (h__law_same : Fn P w mg base G k "_law_same" (top 16) ["_law_found", "_law_due"] (f__law_same 6))
    (h__law_whole : Fn P w mg base G k "_law_whole" (top 20) ["_law_thing"] f__law_whole)
    (h_is_number : Fn P w mg base G k "is_number" (top 7) ["value", "least", "most"] f_is_number) : Fn P w mg base G (k + 1) "_law_numbers" (top 26) ["_law_bag_here"] f__law_numbers := by
  refine fn_mk (N := N__law_numbers) (m := m__law_numbers) g F sc__law_numbers (fun _ _ _ _ _ _ us hl => match us, hl with | [_], _ => rfl) ?_
  intro cdv A outer s H E hr H0 F0 R0
  have hu := hr.units
  have nd := nd__law_numbers
  exact (vs_cons (vs_set nd (i := 1) rfl (.inl rfl) (ve_fn h__law_of rfl hr rfl (va_cons rfl (vo_of (ve_var (pv 0))) (va_cons rfl (vo_of (ve_lst (va_cons rfl (vo_of (ve_con pe_int (fun _ _ => .int _))) (va_cons rfl (vo_of (ve_con pe_int (fun _ _ => .int _))) (va_cons rfl (vo_of (ve_neg (vo_of (ve_con pe_int (fun _ _ => .int _))))) (va_cons rfl (vo_of (ve_neg (vo_of (ve_con pe_int (fun _ _ => .int _))))) (va_cons rfl (vo_of (ve_bin op_sub ops_sub (vo_of (ve_fn h__law_draw rfl hr rfl (va_cons rfl (vo_of (ve_var (pv 0))) (va_cons rfl (vo_of (ve_con pe_int (fun _ _ => .int _))) va_nil)) rfl)) (vo_of (ve_con pe_int (fun _ _ => .int _))))) va_nil))))))) va_nil)) rfl)) (vs_cons (vs_set nd (i := 2) rfl (.inl rfl) (ve_fn h__law_of rfl hr rfl (va_cons rfl (vo_of (ve_var (pv 0))) (va_cons rfl (vo_of (ve_lst (va_cons rfl (vo_of (ve_var (pv 1))) (va_cons rfl (vo_of (ve_bin op_addA ops_add (vo_bw (pv 1)) (vo_of (ve_con pe_int (fun _ _ => .int _))))) (va_cons rfl (vo_of (ve_if (vt_cmp op_gt ops_gt (vo_bw (pv 1)) (vo_of (ve_neg (vo_of (ve_con pe_int (fun _ _ => .int _))))) (nomark _)) (ve_bin op_sub ops_sub (vo_bw (pv 1)) (vo_of (ve_con pe_int (fun _ _ => .int _)))) (ve_con pe_int (fun _ _ => .int _)))) (va_cons rfl (vo_of (ve_con pe_int (fun _ _ => .int _))) (va_cons rfl (vo_of (ve_fn h__law_draw rfl hr rfl (va_cons rfl (vo_of (ve_var (pv 0))) (va_cons rfl (vo_of (ve_con pe_int (fun _ _ => .int _))) va_nil)) rfl)) va_nil))))))) va_nil)) rfl)) (vs_cons (vs_for PassesOwn.never rfl (vi_any rfl (vo_of (ve_lst (va_cons rfl (vo_of (ve_var (pv 1))) (va_cons rfl (vo_of (ve_var (pv 2))) (va_cons rfl (vo_of (ve_bin op_addA ops_add (vo_bw (pv 1)) (vo_of (ve_con pe_int (fun _ _ => .int _))))) (va_cons rfl (vo_of (ve_callB (call_max2 rfl) cs_max2 rfl g_max bt_max rfl (va_cons rfl (vo_of (ve_bin op_sub ops_sub (vo_bw (pv 2)) (vo_of (ve_con pe_int (fun _ _ => .int _))))) (va_cons rfl (vo_of (ve_neg (vo_of (ve_con pe_int (fun _ _ => .int _))))) va_nil)) (by decide) (by decide))) (va_cons rfl (vo_of (ve_con pe_bl (fun _ _ => .bool _))) (va_cons rfl (vo_of (ve_con pe_bl (fun _ _ => .bool _))) (va_cons rfl (vo_of (ve_con pe_non (fun _ _ => .non))) (va_cons rfl (vo_of (ve_callTy call_str_int cs_str rfl g_str bt_str rfl (va_cons rfl (vo_bw (pv 1)) va_nil) (by decide) (by decide))) (va_cons rfl (vo_of (ve_tup (va_cons rfl (vo_of (ve_var (pv 1))) va_nil))) (va_cons rfl (vo_of (ve_lst (va_cons rfl (vo_of (ve_var (pv 2))) va_nil))) (va_cons rfl (vo_of (ve_bin op_sub ops_sub (vo_of (ve_fn h__law_draw rfl hr rfl (va_cons rfl (vo_of (ve_var (pv 0))) (va_cons rfl (vo_of (ve_con pe_int (fun _ _ => .int _))) va_nil)) rfl)) (vo_of (ve_con pe_int (fun _ _ => .int _))))) (va_cons rfl (vo_of (ve_fn h__law_odd rfl hr rfl (va_cons rfl (vo_of (ve_var (pv 0))) (va_cons rfl (vo_of (ve_lst va_nil)) va_nil)) rfl)) va_nil))))))))))))))) (vg_name nd (i := 3) rfl (.inl rfl)) (vs_cons (vs_set nd (i := 4) rfl (.inl rfl) (ve_and (ve_fn h__law_whole rfl hr rfl (va_cons rfl (vo_of (ve_var (pv 3))) va_nil) rfl) (ve_and (ve_cmp op_le ops_le (vo_bw (pv 1)) (vo_bw (pv 3)) (nomark _)) (ve_one (ve_cmp op_le ops_le (vo_bw (pv 3)) (vo_bw (pv 2)) (nomark _)))))) (vs_one (vs_if (vt_not (vt_tru rfl rfl (vo_of (ve_fn h__law_same rfl hr rfl (va_cons rfl (vo_of (ve_lst (va_cons rfl (vo_of (ve_fn h_is_number rfl hr rfl (va_cons rfl (vo_of (ve_var (pv 3))) (va_cons rfl (vo_of (ve_var (pv 1))) (va_cons rfl (vo_of (ve_var (pv 2))) va_nil))) rfl)) (va_cons rfl (vo_of (ve_fnK0 h_is_number rfl hr rfl (show KwB _ _ _ 0 ["most", "value", "least"] [1, 2, 0] from fun _ _ _ _ _ _ us ws h1 h2 => match us, ws, h1, h2 with | [], [_, _, _], _, _ => rfl) (fun a b h1 h2 => match a, b, h1, h2 with | [], [_, _, _], _, _ => rfl) (vk_cons (vo_of (ve_var (pv 2))) (vk_cons (vo_of (ve_var (pv 3))) (vk_cons (vo_of (ve_var (pv 1))) vk_nil))))) va_nil)))) (va_cons rfl (vo_of (ve_lst (va_cons rfl (vo_of (ve_var (pv 4))) (va_cons rfl (vo_of (ve_var (pv 4))) va_nil)))) va_nil)) rfl)))) (vs_one (vs_ret (ve_con pe_bl (fun _ _ => .bool _)))) vs_nil)))) (vs_one (vs_ret (ve_con pe_bl (fun _ _ => .bool _)))))))
def N_nth_mark : List Str := ["index", "mark", "rest", "letter"]
def m_nth_mark : MS := (sSeq (sSet 1 (mCon (.str ""))) (sSeq (sSet 2 (m2 dAdd (mBw 0) (mOf (mCon (.int 1))))) (sSeq (sWhile w_nth_mark_1 (mT (m2 dGt (mBw 2) (mOf (mCon (.int 0))))) (sSeq (sAsg (gT 2 (gsCons (gN 2) (gsCons (gN 3) gsNil))) (mCB dDivmod (aCons (mOf (m2 dSub (mBw 2) (mOf (mCon (.int 1))))) (aCons (mOf (mCB dLen (aCons (mOf (mCon (.str "abcdefghijklmnopqrstuvwxyz"))) aNil))) aNil)))) (sSet 1 (mJs Str.empty [(m1 dFmt (mOf (m2 dIx (mOf (mCon (.str "abcdefghijklmnopqrstuvwxyz"))) (mBw 3)))), (m1 dFmt (mBw 1))])))) (sRet (mMov 1)))))
def f_nth_mark : FM := fM 4 m_nth_mark
theorem nd_nth_mark : N_nth_mark.Nodup := by decide +kernel
theorem sc_nth_mark : FnScope N_nth_mark ["index"] (defScope (top 10)) := ⟨rfl, rfl, rfl, nd_nth_mark, rfl, by decide +kernel, by decide +kernel⟩
theorem ok_nth_mark {P : Program} {w : World} {mg : Str → Option Value} {base : Heap} {G : Gp} {k : Nat} {a : Addr} {fd : FuncData} (g : mg "nth_mark" = some (.ref a)) (F : FunD G.K "nth_mark" "nth_mark" (defArgs (top 10)) (defBody (top 10)) (defScope (top 10)) [] [] a fd)
    (g_divmod : mg "divmod" = none)
    (g_len : mg "len" = none)
    (g_LETTERS : ∃ t, mg "LETTERS" = some (.str "abcdefghijklmnopqrstuvwxyz" t)) : Fn P w mg base G (k + 1) "nth_mark" (top 10) ["index"] f_nth_mark := by
  refine fn_mk (N := N_nth_mark) (m := m_nth_mark) g F sc_nth_mark (fun _ _ _ _ _ _ us hl => match us, hl with | [_], _ => rfl) ?_
  intro cdv A outer s H E hr H0 F0 R0
  have hu := hr.units
  have nd := nd_nth_mark
  exact (vs_cons (vs_set nd (i := 1) rfl (.inl rfl) (ve_con pe_str (fun _ _ => .str _))) (vs_cons (vs_set nd (i := 2) rfl (.inl rfl) (ve_bin op_addA ops_add (vo_bw (pv 0)) (vo_of (ve_con pe_int (fun _ _ => .int _))))) (vs_cons (vs_while w_nth_mark_1 PassesOwn.never (vt_cmp op_gt ops_gt (vo_bw (pv 2)) (vo_of (ve_con pe_int (fun _ _ => .int _))) (nomark _)) (vs_cons (vs_asg (ve_callB call_divmod cs_divmod rfl g_divmod bt_divmod rfl (va_cons rfl (vo_of (ve_bin op_sub ops_sub (vo_bw (pv 2)) (vo_of (ve_con pe_int (fun _ _ => .int _))))) (va_cons rfl (vo_of (ve_callB cr_lenA cs_len rfl g_len bt_len rfl (va_cons rfl (vo_of (ve_gstr rfl g_LETTERS)) va_nil) (by decide) (by decide))) va_nil)) (by decide) (by decide)) (vg_tup (n := 2) rfl rfl (vg_cons (vg_name nd (i := 2) rfl (.inl rfl)) (vg_cons (vg_name nd (i := 3) rfl (.inl rfl)) vg_nil)))) (vs_one (vs_set nd (i := 1) rfl (.inl rfl) (ve_joined (.cons (ve_fmt (vo_of (ve_ix rfl rfl (vo_of (ve_gstr rfl g_LETTERS)) (vo_bw (pv 3))))) (.cons (ve_fmt (vo_bw (pv 1))) .nil))))))) (vs_one (vs_ret (ve_mov (pv 1)))))))
def N__law_mark : List Str := ["_law_index_y", "_law_left", "_law_block", "_law_size", "_law_found", "_law_turn", "_law_spot"]
def m__law_mark : MS := (sSeq (sAsg (gT 4 (gsCons (gN 1) (gsCons (gN 2) (gsCons (gN 3) (gsCons (gN 4) gsNil))))) (mVals dDispT (aCons (mOf (mVar 0)) (aCons (mOf (mCon (.int 26))) (aCons (mOf (mCon (.int 1))) (aCons (mOf (mCon (.str ""))) aNil)))))) (sSeq (sFor (iRng1 (aCons (mOf (mCon (.int 8))) aNil)) (gN 5) (sSeq (sIf (mT (m2 dLt (mBw 1) (mBw 2))) sBk sNx) (sPar3 1 2 3 (mFr (m2 dSub (mBw 1) (mBw 2))) (mFr (m2 dMul (mBw 2) (mOf (mCon (.int 26))))) (m2 dAdd (mBw 3) (mOf (mCon (.int 1))))))) (sSeq (sFor (iRng1 (aCons (mBw 3) aNil)) (gN 6) (sSeq (sSet 4 (m2 dAdd (mOf (m2 dIx (mOf (mCon (.str "abcdefghijklmnopqrstuvwxyz"))) (mOf (m2 dMod (mOf (mCB dInt (aCons (mBw 1) aNil))) (mOf (mCon (.int 26))))))) (mBw 4))) (sSet 1 (m2 dDiv (mBw 1) (mOf (mCon (.int 26))))))) (sRet (mMov 4)))))
def f__law_mark : FM := fM 7 m__law_mark
theorem nd__law_mark : N__law_mark.Nodup := by decide +kernel
theorem sc__law_mark : FnScope N__law_mark ["_law_index_y"] (defScope (top 21)) := ⟨rfl, rfl, rfl, nd__law_mark, rfl, by decide +kernel, by decide +kernel⟩
theorem ok__law_mark {P : Program} {w : World} {mg : Str → Option Value} {base : Heap} {G : Gp} {k : Nat} {a : Addr} {fd : FuncData} (g : mg "_law_mark" = some (.ref a)) (F : FunD G.K "_law_mark" "_law_mark" (defArgs (top 21)) (defBody (top 21)) (defScope (top 21)) [] [] a fd)
    (g_int : mg "int" = none)
    (g_range : mg "range" = none) : Fn P w mg base G (k + 1) "_law_mark" (top 21) ["_law_index_y"] f__law_mark := by
  refine fn_mk (N := N__law_mark) (m := m__law_mark) g F sc__law_mark (fun _ _ _ _ _ _ us hl => match us, hl with | [_], _ => rfl) ?_
  intro cdv A outer s H E hr H0 F0 R0
  have hu := hr.units
  have nd := nd__law_mark
  exact (vs_cons (vs_asg (ve_tup (va_cons rfl (vo_of (ve_var (pv 0))) (va_cons rfl (vo_of (ve_con pe_int (fun _ _ => .int _))) (va_cons rfl (vo_of (ve_con pe_int (fun _ _ => .int _))) (va_cons rfl (vo_of (ve_con pe_str (fun _ _ => .str _))) va_nil))))) (vg_tup (n := 4) rfl rfl (vg_cons (vg_name nd (i := 1) rfl (.inl rfl)) (vg_cons (vg_name nd (i := 2) rfl (.inl rfl)) (vg_cons (vg_name nd (i := 3) rfl (.inl rfl)) (vg_cons (vg_name nd (i := 4) rfl (.inl rfl)) vg_nil)))))) (vs_cons (vs_for PassesOwn.never rfl (vi_rng1 rfl g_range (va_cons rfl (vo_of (ve_con pe_int (fun _ _ => .int _))) va_nil) rfl) (vg_name nd (i := 5) rfl (.inl rfl)) (vs_cons (vs_if (vt_cmp op_ltA ops_lt (vo_bw (pv 1)) (vo_bw (pv 2)) (nomark _)) (vs_one vs_brk) vs_nil) (vs_one (vs_par3 (i := 1) (j := 2) (l := 3) rfl nd rfl rfl rfl (by decide) (by decide) (by decide) rfl rfl rfl (ve_bin op_sub ops_sub (vo_bw (pv 1)) (vo_bw (pv 2))) (ve_bin op_mulA ops_mul (vo_bw (pv 2)) (vo_of (ve_con pe_int (fun _ _ => .int _)))) (ve_bin op_addA ops_add (vo_bw (pv 3)) (vo_of (ve_con pe_int (fun _ _ => .int _)))) rfl rfl rfl (by rfl))))) (vs_cons (vs_for PassesOwn.never rfl (vi_rng1 rfl g_range (va_cons rfl (vo_bw (pv 3)) va_nil) rfl) (vg_name nd (i := 6) rfl (.inl rfl)) (vs_cons (vs_set nd (i := 4) rfl (.inl rfl) (ve_bin op_addA ops_add (vo_of (ve_ix rfl rfl (vo_of (ve_con pe_str (fun _ _ => .str _))) (vo_of (ve_bin op_mod ops_mod (vo_of (ve_callTy call_int1 cs_int rfl g_int bt_int rfl (va_cons rfl (vo_bw (pv 1)) va_nil) (by decide) (by decide))) (vo_of (ve_con pe_int (fun _ _ => .int _))))))) (vo_bw (pv 4)))) (vs_one (vs_set nd (i := 1) rfl (.inl rfl) (ve_bin op_fdivW ops_div (vo_bw (pv 1)) (vo_of (ve_con pe_int (fun _ _ => .int _)))))))) (vs_one (vs_ret (ve_mov (pv 4)))))))
def N__law_marked : List Str := ["_law_bag_here", "_law_far_y", "_law_spot"]
def m__law_marked : MS := (sSeq (sSet 1 (mVals dDispL (aCons (mOf (m2 dAdd (mOf (mCon (.int 18279))) (mOf (mFn 2 f__law_draw (aCons (mOf (mVar 0)) (aCons (mOf (mCon (.int 456975))) aNil)))))) (aCons (mOf (mCon (.int 475253))) (aCons (mOf (mCon (.int 475254))) aNil))))) (sSeq (sFor (iAny (mOf (m2 dAdd (mOf (mVals dDispL (aCons (mOf (mCon (.int 0))) (aCons (mOf (mCon (.int 25))) (aCons (mOf (mCon (.int 26))) (aCons (mOf (mCon (.int 27))) (aCons (mOf (mCon (.int 51))) (aCons (mOf (mCon (.int 52))) (aCons (mOf (mCon (.int 701))) (aCons (mOf (mCon (.int 702))) (aCons (mOf (mCon (.int 703))) (aCons (mOf (mFn 2 f__law_draw (aCons (mOf (mVar 0)) (aCons (mOf (mCon (.int 60))) aNil)))) (aCons (mOf (mFn 2 f__law_draw (aCons (mOf (mVar 0)) (aCons (mOf (mCon (.int 800))) aNil)))) (aCons (mOf (mFn 2 f__law_draw (aCons (mOf (mVar 0)) (aCons (mOf (mCon (.int 2000))) aNil)))) aNil)))))))))))))) (mBw 1)))) (gN 2) (sIf (tNotM (mTru (mOf (mFn 2 (f__law_same 6) (aCons (mOf (mVals dDispL (aCons (mOf (mFn 1 f_nth_mark (aCons (mOf (mVar 2)) aNil))) (aCons (mOf (mFnK 0 1 [0] f_nth_mark aNil (aCons (mOf (mVar 2)) aNil))) aNil)))) (aCons (mOf (mVals dDispL (aCons (mOf (mFn 1 f__law_mark (aCons (mOf (mVar 2)) aNil))) (aCons (mOf (mFn 1 f__law_mark (aCons (mOf (mVar 2)) aNil))) aNil)))) aNil)))))) (sRet (mCon (.bool false))) sNx)) (sSeq (sIf (mT (m2 dEq (mOf (mFn 2 f__law_draw (aCons (mOf (mVar 0)) (aCons (mOf (mCon (.int 8))) aNil)))) (mOf (mCon (.int 0))))) (sSeq (sSet 2 (mFn 2 f__law_of (aCons (mOf (mVar 0)) (aCons (mOf (mVals dDispL (aCons (mOf (mCon (.int 18277))) (aCons (mOf (mCon (.int 18278))) aNil)))) aNil)))) (sRet (mFn 2 (f__law_same 6) (aCons (mOf (mFn 1 f_nth_mark (aCons (mOf (mVar 2)) aNil))) (aCons (mOf (mFn 1 f__law_mark (aCons (mOf (mVar 2)) aNil))) aNil))))) sNx) (sRet (mCon (.bool true))))))
def f__law_marked : FM := fM 3 m__law_marked
theorem nd__law_marked : N__law_marked.Nodup := by decide +kernel
theorem sc__law_marked : FnScope N__law_marked ["_law_bag_here"] (defScope (top 27)) := ⟨rfl, rfl, rfl, nd__law_marked, rfl, by decide +kernel, by decide +kernel⟩
theorem ok__law_marked {P : Program} {w : World} {mg : Str → Option Value} {base : Heap} {G : Gp} {k : Nat} {a : Addr} {fd : FuncData} (g : mg "_law_marked" = some (.ref a)) (F : FunD G.K "_law_marked" "_law_marked" (defArgs (top 27)) (defBody (top 27)) (defScope (top 27)) [] [] a fd)
    (h__law_draw : Fn P w mg base G k "_law_draw" (top 13) ["_law_bag_here", "_law_sides"] f__law_draw)
    (h__law_mark : Fn P w mg base G k "_law_mark" (top 21) ["_law_index_y"] f__law_mark)
    (h__law_of : Fn P w mg base G k "_law_of" (top 14) ["_law_bag_here", "_law_things_here"] f__law_of)
    (h__law_same : Fn P w mg base G k "_law_same" (top 16) ["_law_found", "_law_due"] (f__law_same 6))
    (h_nth_mark : Fn P w mg base G k "nth_mark" (top 10) ["index"] f_nth_mark) : Fn P w mg base G (k + 1) "_law_marked" (top 27) ["_law_bag_here"] f__law_marked := by
  refine fn_mk (N := N__law_marked) (m := m__law_marked) g F sc__law_marked (fun _ _ _ _ _ _ us hl => match us, hl with | [_], _ => rfl) ?_
  intro cdv A outer s H E hr H0 F0 R0
  have hu := hr.units
  have nd := nd__law_marked
  exact (vs_cons (vs_set nd (i := 1) rfl (.inl rfl) (ve_lst (va_cons rfl (vo_of (ve_bin op_addA ops_add (vo_of (ve_con pe_int (fun _ _ => .int _))) (vo_of (ve_fn h__law_draw rfl hr rfl (va_cons rfl (vo_of (ve_var (pv 0))) (va_cons rfl (vo_of (ve_con pe_int (fun _ _ => .int _))) va_nil)) rfl)))) (va_cons rfl (vo_of (ve_con pe_int (fun _ _ => .int _))) (va_cons rfl (vo_of (ve_con pe_int (fun _ _ => .int _))) va_nil))))) (vs_cons (vs_for PassesOwn.never rfl (vi_any rfl (vo_of (ve_bin op_addA ops_add (vo_of (ve_lst (va_cons rfl (vo_of (ve_con pe_int (fun _ _ => .int _))) (va_cons rfl (vo_of (ve_con pe_int (fun _ _ => .int _))) (va_cons rfl (vo_of (ve_con pe_int (fun _ _ => .int _))) (va_cons rfl (vo_of (ve_con pe_int (fun _ _ => .int _))) (va_cons rfl (vo_of (ve_con pe_int (fun _ _ => .int _))) (va_cons rfl (vo_of (ve_con pe_int (fun _ _ => .int _))) (va_cons rfl (vo_of (ve_con pe_int (fun _ _ => .int _))) (va_cons rfl (vo_of (ve_con pe_int (fun _ _ => .int _))) (va_cons rfl (vo_of (ve_con pe_int (fun _ _ => .int _))) (va_cons rfl (vo_of (ve_fn h__law_draw rfl hr rfl (va_cons rfl (vo_of (ve_var (pv 0))) (va_cons rfl (vo_of (ve_con pe_int (fun _ _ => .int _))) va_nil)) rfl)) (va_cons rfl (vo_of (ve_fn h__law_draw rfl hr rfl (va_cons rfl (vo_of (ve_var (pv 0))) (va_cons rfl (vo_of (ve_con pe_int (fun _ _ => .int _))) va_nil)) rfl)) (va_cons rfl (vo_of (ve_fn h__law_draw rfl hr rfl (va_cons rfl (vo_of (ve_var (pv 0))) (va_cons rfl (vo_of (ve_con pe_int (fun _ _ => .int _))) va_nil)) rfl)) va_nil)))))))))))))) (vo_bw (pv 1))))) (vg_name nd (i := 2) rfl (.inl rfl)) (vs_one (vs_if (vt_not (vt_tru rfl rfl (vo_of (ve_fn h__law_same rfl hr rfl (va_cons rfl (vo_of (ve_lst (va_cons rfl (vo_of (ve_fn h_nth_mark rfl hr rfl (va_cons rfl (vo_of (ve_var (pv 2))) va_nil) rfl)) (va_cons rfl (vo_of (ve_fnK0 h_nth_mark rfl hr rfl (show KwB _ _ _ 0 ["index"] [0] from fun _ _ _ _ _ _ us ws h1 h2 => match us, ws, h1, h2 with | [], [_], _, _ => rfl) (fun a b h1 h2 => match a, b, h1, h2 with | [], [_], _, _ => rfl) (vk_cons (vo_of (ve_var (pv 2))) vk_nil))) va_nil)))) (va_cons rfl (vo_of (ve_lst (va_cons rfl (vo_of (ve_fn h__law_mark rfl hr rfl (va_cons rfl (vo_of (ve_var (pv 2))) va_nil) rfl)) (va_cons rfl (vo_of (ve_fn h__law_mark rfl hr rfl (va_cons rfl (vo_of (ve_var (pv 2))) va_nil) rfl)) va_nil)))) va_nil)) rfl)))) (vs_one (vs_ret (ve_con pe_bl (fun _ _ => .bool _)))) vs_nil))) (vs_cons (vs_if (vt_cmp (op_eqA hu) ops_eq (vo_of (ve_fn h__law_draw rfl hr rfl (va_cons rfl (vo_of (ve_var (pv 0))) (va_cons rfl (vo_of (ve_con pe_int (fun _ _ => .int _))) va_nil)) rfl)) (vo_of (ve_con pe_int (fun _ _ => .int _))) (nomark _)) (vs_cons (vs_set nd (i := 2) rfl (.inl rfl) (ve_fn h__law_of rfl hr rfl (va_cons rfl (vo_of (ve_var (pv 0))) (va_cons rfl (vo_of (ve_lst (va_cons rfl (vo_of (ve_con pe_int (fun _ _ => .int _))) (va_cons rfl (vo_of (ve_con pe_int (fun _ _ => .int _))) va_nil)))) va_nil)) rfl)) (vs_one (vs_ret (ve_fn h__law_same rfl hr rfl (va_cons rfl (vo_of (ve_fn h_nth_mark rfl hr rfl (va_cons rfl (vo_of (ve_var (pv 2))) va_nil) rfl)) (va_cons rfl (vo_of (ve_fn h__law_mark rfl hr rfl (va_cons rfl (vo_of (ve_var (pv 2))) va_nil) rfl)) va_nil)) rfl)))) vs_nil) (vs_one (vs_ret (ve_con pe_bl (fun _ _ => .bool _)))))))
def N_is_spelled : List Str := ["value", "most", "letter"]
def m_is_spelled : MS := (sSeq (sIf (tOrM (tNotM (mTru (mOf (m1 (dIsi .str) (mBw 0))))) (tNotM (mT (mChain dLe dLe (mOf (mCon (.int 1))) (mOf (mCB dLen (aCons (mBw 0) aNil))) (mBw 1))))) (sRet (mCon (.bool false))) sNx) (sRet (mCB dAll (aCons (mOf (mLc (iAny (mOf (mVar 0))) (gN 2) tYesM (m2 dIn (mBw 2) (mOf (mCon (.str "abcdefghijklmnopqrstuvwxyz")))) [2])) aNil))))
def f_is_spelled : FM := fM 3 m_is_spelled
theorem nd_is_spelled : N_is_spelled.Nodup := by decide +kernel
theorem sc_is_spelled : FnScope N_is_spelled ["value", "most"] (defScope (top 4)) := ⟨rfl, rfl, rfl, nd_is_spelled, rfl, by decide +kernel, by decide +kernel⟩
theorem ok_is_spelled {P : Program} {w : World} {mg : Str → Option Value} {base : Heap} {G : Gp} {k : Nat} {a : Addr} {fd : FuncData} (g : mg "is_spelled" = some (.ref a)) (F : FunD G.K "is_spelled" "is_spelled" (defArgs (top 4)) (defBody (top 4)) (defScope (top 4)) [] [] a fd)
    (g_all : mg "all" = none)
    (g_isinstance : mg "isinstance" = none)
    (g_len : mg "len" = none)
    (g_str : mg "str" = none)
    (g_LETTERS : ∃ t, mg "LETTERS" = some (.str "abcdefghijklmnopqrstuvwxyz" t)) : Fn P w mg base G (k + 1) "is_spelled" (top 4) ["value", "most"] f_is_spelled := by
  refine fn_mk (N := N_is_spelled) (m := m_is_spelled) g F sc_is_spelled (fun _ _ _ _ _ _ us hl => match us, hl with | [_, _], _ => rfl) ?_
  intro cdv A outer s H E hr H0 F0 R0
  have hu := hr.units
  have nd := nd_is_spelled
  exact (vs_cons (vs_if (PW.pt (vw_or (vt_not (vt_tru rfl rfl (vo_of (ve_isi (T := .str) rfl rfl g_isinstance (vo_bw (pv 0)) rfl (pe_ty rfl g_str bt_str))))) (vw_or1 (vt_not (vt_chain op_le op_le ops_le ops_le (vo_of (ve_con pe_int (fun _ _ => .int _))) (vo_of (ve_callB cr_lenA cs_len rfl g_len bt_len rfl (va_cons rfl (vo_bw (pv 0)) va_nil) (by decide) (by decide))) (vo_bw (pv 1)) rfl))))) (vs_one (vs_ret (ve_con pe_bl (fun _ _ => .bool _)))) vs_nil) (vs_one (vs_ret (ve_callB (cr_all rfl) cs_all rfl g_all bt_all rfl (va_cons rfl (vo_of (ve_lc (own := [("letter", 2)]) rfl nd (vi_any rfl (vo_of (ve_var (pv 0)))) (blkOk_by (own := [("letter", 2)]) (N := N_is_spelled) (sc := defScope (top 4)) (by decide +kernel)) (fun _ _ _ _ _ => (wg_name nd (i := 2) rfl (.inl rfl) (by decide))) (fun _ _ _ _ _ => ptsq_nil) (fun _ _ _ _ _ _ _ _ => (ve_cmp op_inA ops_in (vo_bw (pv 2)) (vo_of (ve_gstr rfl g_LETTERS)) rfl)))) va_nil) (by decide) (by decide)))))
def N_is_name : List Str := ["value"]
def m_is_name : MS := (sRet (mFn 2 f_is_spelled (aCons (mOf (mVar 0)) (aCons (mOf (mCon (.int 6))) aNil))))
def f_is_name : FM := fM 1 m_is_name
theorem nd_is_name : N_is_name.Nodup := by decide +kernel
theorem sc_is_name : FnScope N_is_name ["value"] (defScope (top 5)) := ⟨rfl, rfl, rfl, nd_is_name, rfl, by decide +kernel, by decide +kernel⟩
theorem ok_is_name {P : Program} {w : World} {mg : Str → Option Value} {base : Heap} {G : Gp} {k : Nat} {a : Addr} {fd : FuncData} (g : mg "is_name" = some (.ref a)) (F : FunD G.K "is_name" "is_name" (defArgs (top 5)) (defBody (top 5)) (defScope (top 5)) [] [] a fd)
    (g_NAME_LENGTH : ∃ t, mg "NAME_LENGTH" = some (.int 6 t))
    (h_is_spelled : Fn P w mg base G k "is_spelled" (top 4) ["value", "most"] f_is_spelled) : Fn P w mg base G (k + 1) "is_name" (top 5) ["value"] f_is_name := by
  refine fn_mk (N := N_is_name) (m := m_is_name) g F sc_is_name (fun _ _ _ _ _ _ us hl => match us, hl with | [_], _ => rfl) ?_
  intro cdv A outer s H E hr H0 F0 R0
  have hu := hr.units
  have nd := nd_is_name
  exact (vs_one (vs_ret (ve_fn h_is_spelled rfl hr rfl (va_cons rfl (vo_of (ve_var (pv 0))) (va_cons rfl (vo_of (ve_gint rfl g_NAME_LENGTH)) va_nil)) rfl)))
def N_is_long_word : List Str := ["value"]
def m_is_long_word : MS := (sRet (mFn 2 f_is_spelled (aCons (mOf (mVar 0)) (aCons (mOf (mCon (.int 12))) aNil))))
def f_is_long_word : FM := fM 1 m_is_long_word
theorem nd_is_long_word : N_is_long_word.Nodup := by decide +kernel
theorem sc_is_long_word : FnScope N_is_long_word ["value"] (defScope (top 6)) := ⟨rfl, rfl, rfl, nd_is_long_word, rfl, by decide +kernel, by decide +kernel⟩
theorem ok_is_long_word {P : Program} {w : World} {mg : Str → Option Value} {base : Heap} {G : Gp} {k : Nat} {a : Addr} {fd : FuncData} (g : mg "is_long_word" = some (.ref a)) (F : FunD G.K "is_long_word" "is_long_word" (defArgs (top 6)) (defBody (top 6)) (defScope (top 6)) [] [] a fd)
    (g_LONG_LENGTH : ∃ t, mg "LONG_LENGTH" = some (.int 12 t))
    (h_is_spelled : Fn P w mg base G k "is_spelled" (top 4) ["value", "most"] f_is_spelled) : Fn P w mg base G (k + 1) "is_long_word" (top 6) ["value"] f_is_long_word := by
  refine fn_mk (N := N_is_long_word) (m := m_is_long_word) g F sc_is_long_word (fun _ _ _ _ _ _ us hl => match us, hl with | [_], _ => rfl) ?_
  intro cdv A outer s H E hr H0 F0 R0
  have hu := hr.units
  have nd := nd_is_long_word
  exact (vs_one (vs_ret (ve_fn h_is_spelled rfl hr rfl (va_cons rfl (vo_of (ve_var (pv 0))) (va_cons rfl (vo_of (ve_gint rfl g_LONG_LENGTH)) va_nil)) rfl)))
def N_is_names : List Str := ["value", "item"]
def m_is_names : MS := (sSeq (sIf (tOrM (tNotM (mTru (mOf (m1 (dIsiT [.list, .tuple]) (mBw 0))))) (tNotM (mTru (mOf (mCB dAll (aCons (mOf (mLc (iAny (mOf (mVar 0))) (gN 1) tYesM (mFn 1 f_is_name (aCons (mOf (mVar 1)) aNil)) [1])) aNil)))))) (sRet (mCon (.bool false))) sNx) (sRet (m2 dEq (mOf (m1 dLenSet (mBw 0))) (mOf (mCB dLen (aCons (mBw 0) aNil))))))
def f_is_names : FM := fM 2 m_is_names
theorem nd_is_names : N_is_names.Nodup := by decide +kernel
theorem sc_is_names : FnScope N_is_names ["value"] (defScope (top 8)) := ⟨rfl, rfl, rfl, nd_is_names, rfl, by decide +kernel, by decide +kernel⟩
theorem ok_is_names {P : Program} {w : World} {mg : Str → Option Value} {base : Heap} {G : Gp} {k : Nat} {a : Addr} {fd : FuncData} (g : mg "is_names" = some (.ref a)) (F : FunD G.K "is_names" "is_names" (defArgs (top 8)) (defBody (top 8)) (defScope (top 8)) [] [] a fd)
    (g_all : mg "all" = none)
    (g_isinstance : mg "isinstance" = none)
    (g_len : mg "len" = none)
    (g_list : mg "list" = none)
    (g_set : mg "set" = none)
    (g_tuple : mg "tuple" = none)
    (h_is_name : Fn P w mg base G k "is_name" (top 5) ["value"] f_is_name) : Fn P w mg base G (k + 1) "is_names" (top 8) ["value"] f_is_names := by
  refine fn_mk (N := N_is_names) (m := m_is_names) g F sc_is_names (fun _ _ _ _ _ _ us hl => match us, hl with | [_], _ => rfl) ?_
  intro cdv A outer s H E hr H0 F0 R0
  have hu := hr.units
  have nd := nd_is_names
  exact (vs_cons (vs_if (PW.pt (vw_or (vt_not (vt_tru rfl rfl (vo_of (ve_isiT rfl rfl g_isinstance (vo_bw (pv 0)) rfl (.cons (T := .list) (pe_ty rfl g_list bt_list) (.cons (T := .tuple) (pe_ty rfl g_tuple bt_tuple) .nil)) (by decide))))) (vw_or1 (vt_not (vt_tru rfl rfl (vo_of (ve_callB (cr_all rfl) cs_all rfl g_all bt_all rfl (va_cons rfl (vo_of (ve_lc (own := [("item", 1)]) rfl nd (vi_any rfl (vo_of (ve_var (pv 0)))) (blkOk_by (own := [("item", 1)]) (N := N_is_names) (sc := defScope (top 8)) (by decide +kernel)) (fun _ _ _ _ _ => (wg_name nd (i := 1) rfl (.inl rfl) (by decide))) (fun _ _ _ _ _ => ptsq_nil) (fun _ _ _ _ _ _ _ _ => (ve_fn h_is_name rfl hr rfl (va_cons rfl (vo_of (ve_var (pv 1))) va_nil) rfl)))) va_nil) (by decide) (by decide)))))))) (vs_one (vs_ret (ve_con pe_bl (fun _ _ => .bool _)))) vs_nil) (vs_one (vs_ret (ve_cmp (op_eqA hu) ops_eq (vo_of (ve_lenSet rfl rfl rfl g_len rfl g_set (vo_bw (pv 0)) rfl)) (vo_of (ve_callB cr_lenA cs_len rfl g_len bt_len rfl (va_cons rfl (vo_bw (pv 0)) va_nil) (by decide) (by decide))) (nomark _)))))
def N_is_group : List Str := ["value"]
def m_is_group : MS := (sRet (mAnd (m1 (dIsi .tuple) (mBw 0)) (mAnd (mFn 1 f_is_names (aCons (mOf (mVar 0)) aNil)) (m2 dEq (mOf (mCB dList (aCons (mBw 0) aNil))) (mOf (mCB dSorted (aCons (mOf (mCB dList (aCons (mBw 0) aNil))) aNil)))))))
def f_is_group : FM := fM 1 m_is_group
theorem nd_is_group : N_is_group.Nodup := by decide +kernel
theorem sc_is_group : FnScope N_is_group ["value"] (defScope (top 9)) := ⟨rfl, rfl, rfl, nd_is_group, rfl, by decide +kernel, by decide +kernel⟩
theorem ok_is_group {P : Program} {w : World} {mg : Str → Option Value} {base : Heap} {G : Gp} {k : Nat} {a : Addr} {fd : FuncData} (g : mg "is_group" = some (.ref a)) (F : FunD G.K "is_group" "is_group" (defArgs (top 9)) (defBody (top 9)) (defScope (top 9)) [] [] a fd)
    (g_isinstance : mg "isinstance" = none)
    (g_list : mg "list" = none)
    (g_sorted : mg "sorted" = none)
    (g_tuple : mg "tuple" = none)
    (h_is_names : Fn P w mg base G k "is_names" (top 8) ["value"] f_is_names) : Fn P w mg base G (k + 1) "is_group" (top 9) ["value"] f_is_group := by
  refine fn_mk (N := N_is_group) (m := m_is_group) g F sc_is_group (fun _ _ _ _ _ _ us hl => match us, hl with | [_], _ => rfl) ?_
  intro cdv A outer s H E hr H0 F0 R0
  have hu := hr.units
  have nd := nd_is_group
  exact (vs_one (vs_ret (ve_and (ve_isi (T := .tuple) rfl rfl g_isinstance (vo_bw (pv 0)) rfl (pe_ty rfl g_tuple bt_tuple)) (ve_and (ve_fn h_is_names rfl hr rfl (va_cons rfl (vo_of (ve_var (pv 0))) va_nil) rfl) (ve_one (ve_cmp (op_eqA hu) ops_eq (vo_of (ve_callTy call_list_of cs_list rfl g_list bt_list rfl (va_cons rfl (vo_bw (pv 0)) va_nil) (by decide) (by decide))) (vo_of (ve_callB cr_sortedA cs_sorted rfl g_sorted bt_sorted rfl (va_cons rfl (vo_of (ve_callTy call_list_of cs_list rfl g_list bt_list rfl (va_cons rfl (vo_bw (pv 0)) va_nil) (by decide) (by decide))) va_nil) (by decide) (by decide))) (nomark _)))))))
def N__law_letters : List Str := ["_law_thing", "_law_most", "_law_sign"]
def m__law_letters : MS := (sSeq (sIf (tOrM (tNotM (mTru (mOf (m1 (dIsi .str) (mBw 0))))) (tOrM (mT (m2 dLt (mOf (mCB dLen (aCons (mBw 0) aNil))) (mOf (mCon (.int 1))))) (mT (m2 dGt (mOf (mCB dLen (aCons (mBw 0) aNil))) (mBw 1))))) (sRet (mCon (.bool false))) sNx) (sRet (m2 dEq (mOf (mLc (iAny (mOf (mVar 0))) (gN 2) (mT (m2 dNotIn (mBw 2) (mOf (mCon (.str "abcdefghijklmnopqrstuvwxyz"))))) (mVar 2) [2])) (mOf (mVals dDispL aNil)))))
def f__law_letters : FM := fM 3 m__law_letters
theorem nd__law_letters : N__law_letters.Nodup := by decide +kernel
theorem sc__law_letters : FnScope N__law_letters ["_law_thing", "_law_most"] (defScope (top 19)) := ⟨rfl, rfl, rfl, nd__law_letters, rfl, by decide +kernel, by decide +kernel⟩
theorem ok__law_letters {P : Program} {w : World} {mg : Str → Option Value} {base : Heap} {G : Gp} {k : Nat} {a : Addr} {fd : FuncData} (g : mg "_law_letters" = some (.ref a)) (F : FunD G.K "_law_letters" "_law_letters" (defArgs (top 19)) (defBody (top 19)) (defScope (top 19)) [] [] a fd)
    (g_isinstance : mg "isinstance" = none)
    (g_len : mg "len" = none)
    (g_str : mg "str" = none) : Fn P w mg base G (k + 1) "_law_letters" (top 19) ["_law_thing", "_law_most"] f__law_letters := by
  refine fn_mk (N := N__law_letters) (m := m__law_letters) g F sc__law_letters (fun _ _ _ _ _ _ us hl => match us, hl with | [_, _], _ => rfl) ?_
  intro cdv A outer s H E hr H0 F0 R0
  have hu := hr.units
  have nd := nd__law_letters
  exact (vs_cons (vs_if (PW.pt (vw_or (vt_not (vt_tru rfl rfl (vo_of (ve_isi (T := .str) rfl rfl g_isinstance (vo_bw (pv 0)) rfl (pe_ty rfl g_str bt_str))))) (vw_or (vt_cmp op_ltA ops_lt (vo_of (ve_callB cr_lenA cs_len rfl g_len bt_len rfl (va_cons rfl (vo_bw (pv 0)) va_nil) (by decide) (by decide))) (vo_of (ve_con pe_int (fun _ _ => .int _))) (nomark _)) (vw_or1 (vt_cmp op_gt ops_gt (vo_of (ve_callB cr_lenA cs_len rfl g_len bt_len rfl (va_cons rfl (vo_bw (pv 0)) va_nil) (by decide) (by decide))) (vo_bw (pv 1)) (nomark _)))))) (vs_one (vs_ret (ve_con pe_bl (fun _ _ => .bool _)))) vs_nil) (vs_one (vs_ret (ve_cmp (op_eqA hu) ops_eq (vo_of (ve_lc (own := [("_law_sign", 2)]) rfl nd (vi_any rfl (vo_of (ve_var (pv 0)))) (blkOk_by (own := [("_law_sign", 2)]) (N := N__law_letters) (sc := defScope (top 19)) (by decide +kernel)) (fun _ _ _ _ _ => (wg_name nd (i := 2) rfl (.inl rfl) (by decide))) (fun _ _ _ _ _ => (ptsq_one fun _ _ _ => (vt_cmp op_notInA ops_notIn (vo_bw (pv 2)) (vo_of (ve_con pe_str (fun _ _ => .str _))) rfl))) (fun _ _ _ _ _ _ _ _ => (ve_var (pv 2))))) (vo_of (ve_lst va_nil)) (nomark _)))))
def N__law_group_so : List Str := ["_law_thing", "_law_item", "_law_k"]
def m__law_group_so : MS := (sSeq (sIf (tOrM (tNotM (mTru (mOf (m1 (dIsi .tuple) (mBw 0))))) (mT (m2 dNe (mOf (mLc (iAny (mOf (mVar 0))) (gN 1) (tNotM (mTru (mOf (mFn 2 f__law_letters (aCons (mOf (mVar 1)) (aCons (mOf (mCon (.int 6))) aNil)))))) (mVar 1) [1])) (mOf (mVals dDispL aNil))))) (sRet (mCon (.bool false))) sNx) (sRet (m2 dEq (mOf (mLc (iRng1 (aCons (mOf (m2 dSub (mOf (mCB dLen (aCons (mBw 0) aNil))) (mOf (mCon (.int 1))))) aNil)) (gN 2) (tNotM (mT (m2 dLt (mOf (m2 dIx (mBw 0) (mBw 2))) (mOf (m2 dIx (mBw 0) (mOf (m2 dAdd (mBw 2) (mOf (mCon (.int 1)))))))))) (mVar 2) [2])) (mOf (mVals dDispL aNil)))))
def f__law_group_so : FM := fM 3 m__law_group_so
theorem nd__law_group_so : N__law_group_so.Nodup := by decide +kernel
theorem sc__law_group_so : FnScope N__law_group_so ["_law_thing"] (defScope (top 22)) := ⟨rfl, rfl, rfl, nd__law_group_so, rfl, by decide +kernel, by decide +kernel⟩
theorem ok__law_group_so {P : Program} {w : World} {mg : Str → Option Value} {base : Heap} {G : Gp} {k : Nat} {a : Addr} {fd : FuncData} (g : mg "_law_group_so" = some (.ref a)) (F : FunD G.K "_law_group_so" "_law_group_so" (defArgs (top 22)) (defBody (top 22)) (defScope (top 22)) [] [] a fd)
    (g_isinstance : mg "isinstance" = none)
    (g_len : mg "len" = none)
    (g_range : mg "range" = none)
    (g_tuple : mg "tuple" = none)
    (h__law_letters : Fn P w mg base G k "_law_letters" (top 19) ["_law_thing", "_law_most"] f__law_letters) : Fn P w mg base G (k + 1) "_law_group_so" (top 22) ["_law_thing"] f__law_group_so := by
  refine fn_mk (N := N__law_group_so) (m := m__law_group_so) g F sc__law_group_so (fun _ _ _ _ _ _ us hl => match us, hl with | [_], _ => rfl) ?_
  intro cdv A outer s H E hr H0 F0 R0
  have hu := hr.units
  have nd := nd__law_group_so
  exact (vs_cons (vs_if (PW.pt (vw_or (vt_not (vt_tru rfl rfl (vo_of (ve_isi (T := .tuple) rfl rfl g_isinstance (vo_bw (pv 0)) rfl (pe_ty rfl g_tuple bt_tuple))))) (vw_or1 (vt_cmp (op_neA hu) ops_ne (vo_of (ve_lc (own := [("_law_item", 1)]) rfl nd (vi_any rfl (vo_of (ve_var (pv 0)))) (blkOk_by (own := [("_law_item", 1)]) (N := N__law_group_so) (sc := defScope (top 22)) (by decide +kernel)) (fun _ _ _ _ _ => (wg_name nd (i := 1) rfl (.inl rfl) (by decide))) (fun _ _ _ _ _ => (ptsq_one fun _ _ _ => (vt_not (vt_tru rfl rfl (vo_of (ve_fn h__law_letters rfl hr rfl (va_cons rfl (vo_of (ve_var (pv 1))) (va_cons rfl (vo_of (ve_con pe_int (fun _ _ => .int _))) va_nil)) rfl)))))) (fun _ _ _ _ _ _ _ _ => (ve_var (pv 1))))) (vo_of (ve_lst va_nil)) (nomark _))))) (vs_one (vs_ret (ve_con pe_bl (fun _ _ => .bool _)))) vs_nil) (vs_one (vs_ret (ve_cmp (op_eqA hu) ops_eq (vo_of (ve_lc (own := [("_law_k", 2)]) rfl nd (vi_rng1 rfl g_range (va_cons rfl (vo_of (ve_bin op_sub ops_sub (vo_of (ve_callB cr_lenA cs_len rfl g_len bt_len rfl (va_cons rfl (vo_bw (pv 0)) va_nil) (by decide) (by decide))) (vo_of (ve_con pe_int (fun _ _ => .int _))))) va_nil) rfl) (blkOk_by (own := [("_law_k", 2)]) (N := N__law_group_so) (sc := defScope (top 22)) (by decide +kernel)) (fun _ _ _ _ _ => (wg_name nd (i := 2) rfl (.inl rfl) (by decide))) (fun _ _ _ _ _ => (ptsq_one fun _ _ _ => (vt_not (vt_cmp op_ltA ops_lt (vo_of (ve_ix rfl rfl (vo_bw (pv 0)) (vo_bw (pv 2)))) (vo_of (ve_ix rfl rfl (vo_bw (pv 0)) (vo_of (ve_bin op_addA ops_add (vo_bw (pv 2)) (vo_of (ve_con pe_int (fun _ _ => .int _))))))) (nomark _))))) (fun _ _ _ _ _ _ _ _ => (ve_var (pv 2))))) (vo_of (ve_lst va_nil)) (nomark _)))))
def N__law_judged : List Str := ["_law_thing", "_law_told", "_law_due"]
def m__law_judged : MS := (sSeq (sSet 1 (mVals dDispL (aCons (mOf (mFn 1 f_is_name (aCons (mOf (mVar 0)) aNil))) (aCons (mOf (mFn 1 f_is_long_word (aCons (mOf (mVar 0)) aNil))) (aCons (mOf (mFn 1 f_is_group (aCons (mOf (mVar 0)) aNil))) (aCons (mOf (mFnK 0 1 [0] f_is_name aNil (aCons (mOf (mVar 0)) aNil))) (aCons (mOf (mFnK 0 1 [0] f_is_long_word aNil (aCons (mOf (mVar 0)) aNil))) (aCons (mOf (mFnK 0 1 [0] f_is_group aNil (aCons (mOf (mVar 0)) aNil))) aNil)))))))) (sSeq (sSet 2 (mVals dDispL (aCons (mOf (mFn 2 f__law_letters (aCons (mOf (mVar 0)) (aCons (mOf (mCon (.int 6))) aNil)))) (aCons (mOf (mFn 2 f__law_letters (aCons (mOf (mVar 0)) (aCons (mOf (mCon (.int 12))) aNil)))) (aCons (mOf (mFn 1 f__law_group_so (aCons (mOf (mVar 0)) aNil))) aNil))))) (sRet (mFn 2 (f__law_same 6) (aCons (mOf (mVar 1)) (aCons (mOf (m2 dAdd (mBw 2) (mBw 2))) aNil))))))
def f__law_judged : FM := fM 3 m__law_judged
theorem nd__law_judged : N__law_judged.Nodup := by decide +kernel
theorem sc__law_judged : FnScope N__law_judged ["_law_thing"] (defScope (top 25)) := ⟨rfl, rfl, rfl, nd__law_judged, rfl, by decide +kernel, by decide +kernel⟩
theorem ok__law_judged {P : Program} {w : World} {mg : Str → Option Value} {base : Heap} {G : Gp} {k : Nat} {a : Addr} {fd : FuncData} (g : mg "_law_judged" = some (.ref a)) (F : FunD G.K "_law_judged" "_law_judged" (defArgs (top 25)) (defBody (top 25)) (defScope (top 25)) [] [] a fd)
    (h__law_group_so : Fn P w mg base G k "_law_group_so" (top 22) ["_law_thing"] f__law_group_so)
    (h__law_letters : Fn P w mg base G k "_law_letters" (top 19) ["_law_thing", "_law_most"] f__law_letters)
    (h__law_same : Fn P w mg base G k "_law_same" (top 16) ["_law_found", "_law_due"] (f__law_same 6))
    (h_is_group : Fn P w mg base G k "is_group" (top 9) ["value"] f_is_group)
    (h_is_long_word : Fn P w mg base G k "is_long_word" (top 6) ["value"] f_is_long_word)
    (h_is_name : Fn P w mg base G k "is_name" (top 5) ["value"] f_is_name) : Fn P w mg base G (k + 1) "_law_judged" (top 25) ["_law_thing"] f__law_judged := by
  refine fn_mk (N := N__law_judged) (m := m__law_judged) g F sc__law_judged (fun _ _ _ _ _ _ us hl => match us, hl with | [_], _ => rfl) ?_
  intro cdv A outer s H E hr H0 F0 R0
  have hu := hr.units
  have nd := nd__law_judged
  exact (vs_cons (vs_set nd (i := 1) rfl (.inl rfl) (ve_lst (va_cons rfl (vo_of (ve_fn h_is_name rfl hr rfl (va_cons rfl (vo_of (ve_var (pv 0))) va_nil) rfl)) (va_cons rfl (vo_of (ve_fn h_is_long_word rfl hr rfl (va_cons rfl (vo_of (ve_var (pv 0))) va_nil) rfl)) (va_cons rfl (vo_of (ve_fn h_is_group rfl hr rfl (va_cons rfl (vo_of (ve_var (pv 0))) va_nil) rfl)) (va_cons rfl (vo_of (ve_fnK0 h_is_name rfl hr rfl (show KwB _ _ _ 0 ["value"] [0] from fun _ _ _ _ _ _ us ws h1 h2 => match us, ws, h1, h2 with | [], [_], _, _ => rfl) (fun a b h1 h2 => match a, b, h1, h2 with | [], [_], _, _ => rfl) (vk_cons (vo_of (ve_var (pv 0))) vk_nil))) (va_cons rfl (vo_of (ve_fnK0 h_is_long_word rfl hr rfl (show KwB _ _ _ 0 ["value"] [0] from fun _ _ _ _ _ _ us ws h1 h2 => match us, ws, h1, h2 with | [], [_], _, _ => rfl) (fun a b h1 h2 => match a, b, h1, h2 with | [], [_], _, _ => rfl) (vk_cons (vo_of (ve_var (pv 0))) vk_nil))) (va_cons rfl (vo_of (ve_fnK0 h_is_group rfl hr rfl (show KwB _ _ _ 0 ["value"] [0] from fun _ _ _ _ _ _ us ws h1 h2 => match us, ws, h1, h2 with | [], [_], _, _ => rfl) (fun a b h1 h2 => match a, b, h1, h2 with | [], [_], _, _ => rfl) (vk_cons (vo_of (ve_var (pv 0))) vk_nil))) va_nil)))))))) (vs_cons (vs_set nd (i := 2) rfl (.inl rfl) (ve_lst (va_cons rfl (vo_of (ve_fn h__law_letters rfl hr rfl (va_cons rfl (vo_of (ve_var (pv 0))) (va_cons rfl (vo_of (ve_con pe_int (fun _ _ => .int _))) va_nil)) rfl)) (va_cons rfl (vo_of (ve_fn h__law_letters rfl hr rfl (va_cons rfl (vo_of (ve_var (pv 0))) (va_cons rfl (vo_of (ve_con pe_int (fun _ _ => .int _))) va_nil)) rfl)) (va_cons rfl (vo_of (ve_fn h__law_group_so rfl hr rfl (va_cons rfl (vo_of (ve_var (pv 0))) va_nil) rfl)) va_nil))))) (vs_one (vs_ret (ve_fn h__law_same rfl hr rfl (va_cons rfl (vo_of (ve_var (pv 1))) (va_cons rfl (vo_of (ve_bin op_addA ops_add (vo_bw (pv 2)) (vo_bw (pv 2)))) va_nil)) rfl)))))
def N__law_string : List Str := ["_law_bag_here", "_law_size", "_law_word", "_law_spot", "_law_k"]
def m__law_string : MS := (sSeq (sSet 1 (mFn 2 f__law_draw (aCons (mOf (mVar 0)) (aCons (mOf (mCon (.int 14))) aNil)))) (sSeq (sSet 2 (mM1 dJoin (mOf (mCon (.str ""))) (mOf (mLc (iRng1 (aCons (mBw 1) aNil)) (gN 4) tYesM (mFn 2 f__law_of (aCons (mOf (mVar 0)) (aCons (mOf (mCon (.str "abcdefghijklmnopqrstuvwxyz"))) aNil))) [4])))) (sSeq (sSet 3 (mFn 2 f__law_draw (aCons (mOf (mVar 0)) (aCons (mOf (m2 dAdd (mBw 1) (mOf (mCon (.int 1))))) aNil)))) (sSeq (sIf (mT (m2 dEq (mOf (mFn 2 f__law_draw (aCons (mOf (mVar 0)) (aCons (mOf (mCon (.int 3))) aNil)))) (mOf (mCon (.int 0))))) (sSet 2 (m2 dAdd (mOf (m2 dAdd (mOf (mCut (mBw 2) pNone (pSome (mVar 3)))) (mOf (mFn 2 f__law_of (aCons (mOf (mVar 0)) (aCons (mOf (mCon (.str "AZ09 _-?.=\n{`@"))) aNil)))))) (mOf (mCut (mBw 2) (pSome (m2 dAdd (mBw 3) (mOf (mCon (.int 1))))) pNone)))) sNx) (sRet (mMov 2))))))
def f__law_string : FM := fM 5 m__law_string
theorem nd__law_string : N__law_string.Nodup := by decide +kernel
theorem sc__law_string : FnScope N__law_string ["_law_bag_here"] (defScope (top 23)) := ⟨rfl, rfl, rfl, nd__law_string, rfl, by decide +kernel, by decide +kernel⟩
theorem ok__law_string {P : Program} {w : World} {mg : Str → Option Value} {base : Heap} {G : Gp} {k : Nat} {a : Addr} {fd : FuncData} (g : mg "_law_string" = some (.ref a)) (F : FunD G.K "_law_string" "_law_string" (defArgs (top 23)) (defBody (top 23)) (defScope (top 23)) [] [] a fd)
    (g_range : mg "range" = none)
    (h__law_draw : Fn P w mg base G k "_law_draw" (top 13) ["_law_bag_here", "_law_sides"] f__law_draw)
    (h__law_of : Fn P w mg base G k "_law_of" (top 14) ["_law_bag_here", "_law_things_here"] f__law_of) : Fn P w mg base G (k + 1) "_law_string" (top 23) ["_law_bag_here"] f__law_string := by
  refine fn_mk (N := N__law_string) (m := m__law_string) g F sc__law_string (fun _ _ _ _ _ _ us hl => match us, hl with | [_], _ => rfl) ?_
  intro cdv A outer s H E hr H0 F0 R0
  have hu := hr.units
  have nd := nd__law_string
  exact (vs_cons (vs_set nd (i := 1) rfl (.inl rfl) (ve_fn h__law_draw rfl hr rfl (va_cons rfl (vo_of (ve_var (pv 0))) (va_cons rfl (vo_of (ve_con pe_int (fun _ _ => .int _))) va_nil)) rfl)) (vs_cons (vs_set nd (i := 2) rfl (.inl rfl) (ve_m1 PySem.F.slot_str_join PySem.F.type_str_join mt_join mj_join (vo_of (ve_con pe_str (fun _ _ => .str _))) (vo_of (ve_lc (own := [("_law_k", 4)]) rfl nd (vi_rng1 rfl g_range (va_cons rfl (vo_bw (pv 1)) va_nil) rfl) (blkOk_by (own := [("_law_k", 4)]) (N := N__law_string) (sc := defScope (top 23)) (by decide +kernel)) (fun _ _ _ _ _ => (wg_name nd (i := 4) rfl (.inl rfl) (by decide))) (fun _ _ _ _ _ => ptsq_nil) (fun _ _ _ _ _ _ _ _ => (ve_fn h__law_of rfl hr rfl (va_cons rfl (vo_of (ve_var (pv 0))) (va_cons rfl (vo_of (ve_con pe_str (fun _ _ => .str _))) va_nil)) rfl)))) rfl rfl rfl)) (vs_cons (vs_set nd (i := 3) rfl (.inl rfl) (ve_fn h__law_draw rfl hr rfl (va_cons rfl (vo_of (ve_var (pv 0))) (va_cons rfl (vo_of (ve_bin op_addA ops_add (vo_bw (pv 1)) (vo_of (ve_con pe_int (fun _ _ => .int _))))) va_nil)) rfl)) (vs_cons (vs_if (vt_cmp (op_eqA hu) ops_eq (vo_of (ve_fn h__law_draw rfl hr rfl (va_cons rfl (vo_of (ve_var (pv 0))) (va_cons rfl (vo_of (ve_con pe_int (fun _ _ => .int _))) va_nil)) rfl)) (vo_of (ve_con pe_int (fun _ _ => .int _))) (nomark _)) (vs_one (vs_set nd (i := 2) rfl (.inl rfl) (ve_bin op_addA ops_add (vo_of (ve_bin op_addA ops_add (vo_of (ve_cut rfl (vo_bw (pv 2)) vp_none (vp_some (ve_var (pv 3))))) (vo_of (ve_fn h__law_of rfl hr rfl (va_cons rfl (vo_of (ve_var (pv 0))) (va_cons rfl (vo_of (ve_con pe_str (fun _ _ => .str _))) va_nil)) rfl)))) (vo_of (ve_cut rfl (vo_bw (pv 2)) (vp_some (ve_bin op_addA ops_add (vo_bw (pv 3)) (vo_of (ve_con pe_int (fun _ _ => .int _))))) vp_none))))) vs_nil) (vs_one (vs_ret (ve_mov (pv 2))))))))
def N__law_names : List Str := ["_law_bag_here", "_law_many", "_law_signs", "_law_words", "_law_found", "_law_k", "_law_word", "_law_spot", "_law_sign"]
def m__law_names : MS := (sSeq (sSet 2 (mFn 2 f__law_of (aCons (mOf (mVar 0)) (aCons (mOf (mVals dDispL (aCons (mOf (mCon (.str "abcdefghijklmnopqrstuvwxyz"))) (aCons (mOf (mCon (.str "abcdefghijklmnopqrstuvwxyz"))) (aCons (mOf (mCon (.str "ab"))) (aCons (mOf (mCon (.str "eqz"))) aNil)))))) aNil)))) (sSeq (sSet 3 (mVals dDispL (aCons (mOf (mCon (.str "row"))) (aCons (mOf (mCon (.str "even"))) (aCons (mOf (mCon (.str "case"))) (aCons (mOf (mCon (.str "offer"))) (aCons (mOf (mCon (.str "end"))) (aCons (mOf (mCon (.str "reason"))) (aCons (mOf (mCon (.str "self"))) (aCons (mOf (mCon (.str "none"))) (aCons (mOf (mCon (.str "sum"))) (aCons (mOf (mCon (.str "turn"))) (aCons (mOf (mCon (.str "amount"))) aNil))))))))))))) (sSeq (sSet 4 (mVals dDispL aNil)) (sSeq (sFor (iRng1 (aCons (mBw 1) aNil)) (gN 5) (sSeq (sIf (mT (m2 dEq (mOf (mFn 2 f__law_draw (aCons (mOf (mVar 0)) (aCons (mOf (mCon (.int 6))) aNil)))) (mOf (mCon (.int 5))))) (sSet 6 (mFn 2 f__law_of (aCons (mOf (mVar 0)) (aCons (mOf (mVar 3)) aNil)))) (sSet 6 (mM1 dJoin (mOf (mCon (.str ""))) (mOf (mLc (iRng1 (aCons (mOf (m2 dAdd (mOf (mCon (.int 1))) (mOf (mFn 2 f__law_draw (aCons (mOf (mVar 0)) (aCons (mOf (mCon (.int 6))) aNil)))))) aNil)) (gN 7) tYesM (mFn 2 f__law_of (aCons (mOf (mVar 0)) (aCons (mOf (mVar 2)) aNil))) [7]))))) (sSeq (sIf (mT (m2 dIn (mBw 6) (mBw 4))) (sSet 6 (m2 dIx (mOf (mLc (iAny (mOf (mCon (.str "mabcdefghijklnopqrstuvwxyz")))) (gN 8) (mT (m2 dNotIn (mBw 8) (mBw 4))) (mVar 8) [8])) (mOf (mCon (.int 0))))) sNx) (sExp (mMut fAppend 4 (aCons (mOf (mVar 6)) aNil)))))) (sRet (mMov 4))))))
def f__law_names : FM := fM 9 m__law_names
theorem nd__law_names : N__law_names.Nodup := by decide +kernel
theorem sc__law_names : FnScope N__law_names ["_law_bag_here", "_law_many"] (defScope (top 18)) := ⟨rfl, rfl, rfl, nd__law_names, rfl, by decide +kernel, by decide +kernel⟩
theorem ok__law_names {P : Program} {w : World} {mg : Str → Option Value} {base : Heap} {G : Gp} {k : Nat} {a : Addr} {fd : FuncData} (g : mg "_law_names" = some (.ref a)) (F : FunD G.K "_law_names" "_law_names" (defArgs (top 18)) (defBody (top 18)) (defScope (top 18)) [] [] a fd)
    (g_range : mg "range" = none)
    (h__law_draw : Fn P w mg base G k "_law_draw" (top 13) ["_law_bag_here", "_law_sides"] f__law_draw)
    (h__law_of : Fn P w mg base G k "_law_of" (top 14) ["_law_bag_here", "_law_things_here"] f__law_of) : Fn P w mg base G (k + 1) "_law_names" (top 18) ["_law_bag_here", "_law_many"] f__law_names := by
  refine fn_mk (N := N__law_names) (m := m__law_names) g F sc__law_names (fun _ _ _ _ _ _ us hl => match us, hl with | [_, _], _ => rfl) ?_
  intro cdv A outer s H E hr H0 F0 R0
  have hu := hr.units
  have nd := nd__law_names
  exact (vs_cons (vs_set nd (i := 2) rfl (.inr rfl) (ve_fn h__law_of rfl hr rfl (va_cons rfl (vo_of (ve_var (pv 0))) (va_cons rfl (vo_of (ve_lst (va_cons rfl (vo_of (ve_con pe_str (fun _ _ => .str _))) (va_cons rfl (vo_of (ve_con pe_str (fun _ _ => .str _))) (va_cons rfl (vo_of (ve_con pe_str (fun _ _ => .str _))) (va_cons rfl (vo_of (ve_con pe_str (fun _ _ => .str _))) va_nil)))))) va_nil)) rfl)) (vs_cons (vs_set nd (i := 3) rfl (.inl rfl) (ve_lst (va_cons rfl (vo_of (ve_con pe_str (fun _ _ => .str _))) (va_cons rfl (vo_of (ve_con pe_str (fun _ _ => .str _))) (va_cons rfl (vo_of (ve_con pe_str (fun _ _ => .str _))) (va_cons rfl (vo_of (ve_con pe_str (fun _ _ => .str _))) (va_cons rfl (vo_of (ve_con pe_str (fun _ _ => .str _))) (va_cons rfl (vo_of (ve_con pe_str (fun _ _ => .str _))) (va_cons rfl (vo_of (ve_con pe_str (fun _ _ => .str _))) (va_cons rfl (vo_of (ve_con pe_str (fun _ _ => .str _))) (va_cons rfl (vo_of (ve_con pe_str (fun _ _ => .str _))) (va_cons rfl (vo_of (ve_con pe_str (fun _ _ => .str _))) (va_cons rfl (vo_of (ve_con pe_str (fun _ _ => .str _))) va_nil))))))))))))) (vs_cons (vs_set nd (i := 4) rfl (.inr rfl) (ve_lst va_nil)) (vs_cons (vs_for PassesOwn.never rfl (vi_rng1 rfl g_range (va_cons rfl (vo_bw (pv 1)) va_nil) rfl) (vg_name nd (i := 5) rfl (.inl rfl)) (vs_cons (vs_if (vt_cmp (op_eqA hu) ops_eq (vo_of (ve_fn h__law_draw rfl hr rfl (va_cons rfl (vo_of (ve_var (pv 0))) (va_cons rfl (vo_of (ve_con pe_int (fun _ _ => .int _))) va_nil)) rfl)) (vo_of (ve_con pe_int (fun _ _ => .int _))) (nomark _)) (vs_one (vs_set nd (i := 6) rfl (.inl rfl) (ve_fn h__law_of rfl hr rfl (va_cons rfl (vo_of (ve_var (pv 0))) (va_cons rfl (vo_of (ve_var (pv 3))) va_nil)) rfl))) (vs_one (vs_set nd (i := 6) rfl (.inl rfl) (ve_m1 PySem.F.slot_str_join PySem.F.type_str_join mt_join mj_join (vo_of (ve_con pe_str (fun _ _ => .str _))) (vo_of (ve_lc (own := [("_law_spot", 7)]) rfl nd (vi_rng1 rfl g_range (va_cons rfl (vo_of (ve_bin op_addA ops_add (vo_of (ve_con pe_int (fun _ _ => .int _))) (vo_of (ve_fn h__law_draw rfl hr rfl (va_cons rfl (vo_of (ve_var (pv 0))) (va_cons rfl (vo_of (ve_con pe_int (fun _ _ => .int _))) va_nil)) rfl)))) va_nil) rfl) (blkOk_by (own := [("_law_spot", 7)]) (N := N__law_names) (sc := defScope (top 18)) (by decide +kernel)) (fun _ _ _ _ _ => (wg_name nd (i := 7) rfl (.inl rfl) (by decide))) (fun _ _ _ _ _ => ptsq_nil) (fun _ _ _ _ _ _ _ _ => (ve_fn h__law_of rfl hr rfl (va_cons rfl (vo_of (ve_var (pv 0))) (va_cons rfl (vo_of (ve_var (pv 2))) va_nil)) rfl)))) rfl rfl rfl)))) (vs_cons (vs_if (vt_cmp op_inA ops_in (vo_bw (pv 6)) (vo_bw (pv 4)) rfl) (vs_one (vs_set nd (i := 6) rfl (.inl rfl) (ve_ix rfl rfl (vo_of (ve_lc (own := [("_law_sign", 8)]) rfl nd (vi_any rfl (vo_of (ve_con pe_str (fun _ _ => .str _)))) (blkOk_by (own := [("_law_sign", 8)]) (N := N__law_names) (sc := defScope (top 18)) (by decide +kernel)) (fun _ _ _ _ _ => (wg_name nd (i := 8) rfl (.inl rfl) (by decide))) (fun _ _ _ _ _ => (ptsq_one fun _ _ _ => (vt_cmp op_notInA ops_notIn (vo_bw (pv 8)) (vo_bw (pv 4)) rfl))) (fun _ _ _ _ _ _ _ _ => (ve_var (pv 8))))) (vo_of (ve_con pe_int (fun _ _ => .int _)))))) vs_nil) (vs_one (vs_exp (ve_mut rfl PySem.F.slot_list_append PySem.F.type_list_append mt_append ms_append (pv 4) rfl (by decide) rfl (va_cons rfl (vo_of (ve_var (pv 6))) va_nil))))))) (vs_one (vs_ret (ve_mov (pv 4))))))))
def N__law_mixed : List Str := ["_law_bag_here", "_law_things_here", "_law_left", "_law_found", "_law_k"]
def m__law_mixed : MS := (sSeq (sPar 2 3 (mCB dList (aCons (mBw 1) aNil)) (mVals dDispL aNil)) (sSeq (sFor (iRng1 (aCons (mOf (mCB dLen (aCons (mBw 1) aNil))) aNil)) (gN 4) (sExp (mMut fAppend 3 (aCons (mOf (mMut fPopAt 2 (aCons (mOf (mFn 2 f__law_draw (aCons (mOf (mVar 0)) (aCons (mOf (mCB dLen (aCons (mBw 2) aNil))) aNil)))) aNil))) aNil)))) (sRet (mMov 3))))
def f__law_mixed : FM := fM 5 m__law_mixed
theorem nd__law_mixed : N__law_mixed.Nodup := by decide +kernel
theorem sc__law_mixed : FnScope N__law_mixed ["_law_bag_here", "_law_things_here"] (defScope (top 15)) := ⟨rfl, rfl, rfl, nd__law_mixed, rfl, by decide +kernel, by decide +kernel⟩
theorem ok__law_mixed {P : Program} {w : World} {mg : Str → Option Value} {base : Heap} {G : Gp} {k : Nat} {a : Addr} {fd : FuncData} (g : mg "_law_mixed" = some (.ref a)) (F : FunD G.K "_law_mixed" "_law_mixed" (defArgs (top 15)) (defBody (top 15)) (defScope (top 15)) [] [] a fd)
    (g_len : mg "len" = none)
    (g_list : mg "list" = none)
    (g_range : mg "range" = none)
    (h__law_draw : Fn P w mg base G k "_law_draw" (top 13) ["_law_bag_here", "_law_sides"] f__law_draw) : Fn P w mg base G (k + 1) "_law_mixed" (top 15) ["_law_bag_here", "_law_things_here"] f__law_mixed := by
  refine fn_mk (N := N__law_mixed) (m := m__law_mixed) g F sc__law_mixed (fun _ _ _ _ _ _ us hl => match us, hl with | [_, _], _ => rfl) ?_
  intro cdv A outer s H E hr H0 F0 R0
  have hu := hr.units
  have nd := nd__law_mixed
  exact (vs_cons (vs_par (i := 2) (j := 3) rfl nd rfl rfl (by decide) rfl rfl (ve_callTy call_list_of cs_list rfl g_list bt_list rfl (va_cons rfl (vo_bw (pv 1)) va_nil) (by decide) (by decide)) (fun _ _ _ => (ve_lst va_nil)) rfl rfl (by rfl)) (vs_cons (vs_for PassesOwn.never rfl (vi_rng1 rfl g_range (va_cons rfl (vo_of (ve_callB cr_lenA cs_len rfl g_len bt_len rfl (va_cons rfl (vo_bw (pv 1)) va_nil) (by decide) (by decide))) va_nil) rfl) (vg_name nd (i := 4) rfl (.inl rfl)) (vs_one (vs_exp (ve_mut rfl PySem.F.slot_list_append PySem.F.type_list_append mt_append ms_append (pv 3) rfl (by decide) rfl (va_cons rfl (vo_of (ve_mut rfl PySem.F.slot_list_pop PySem.F.type_list_pop mt_popAt ms_popAt (pv 2) rfl (by decide) rfl (va_cons rfl (vo_of (ve_fn h__law_draw rfl hr rfl (va_cons rfl (vo_of (ve_var (pv 0))) (va_cons rfl (vo_of (ve_callB cr_lenA cs_len rfl g_len bt_len rfl (va_cons rfl (vo_bw (pv 2)) va_nil) (by decide) (by decide))) va_nil)) rfl)) va_nil))) va_nil))))) (vs_one (vs_ret (ve_mov (pv 3))))))
def N__law_things : List Str := ["_law_bag_here", "_law_names_here", "_law_spot", "_law_way"]
def m__law_things : MS := (sSeq (sSet 1 (mCB dSorted (aCons (mOf (mFn 2 f__law_names (aCons (mOf (mVar 0)) (aCons (mOf (mFn 2 f__law_of (aCons (mOf (mVar 0)) (aCons (mOf (mVals dDispL (aCons (mOf (mCon (.int 0))) (aCons (mOf (mCon (.int 1))) (aCons (mOf (mCon (.int 2))) (aCons (mOf (mCon (.int 3))) (aCons (mOf (mCon (.int 4))) (aCons (mOf (mCon (.int 8))) aNil)))))))) aNil)))) aNil)))) aNil))) (sSeq (sPar 2 3 (mFn 2 f__law_draw (aCons (mOf (mVar 0)) (aCons (mOf (m2 dAdd (mOf (mCB dLen (aCons (mBw 1) aNil))) (mOf (mCon (.int 1))))) aNil))) (mFn 2 f__law_draw (aCons (mOf (mVar 0)) (aCons (mOf (mCon (.int 7))) aNil)))) (sSeq (sIf (mT (m2 dEq (mBw 3) (mOf (mCon (.int 0))))) (sRet (mMov 1)) sNx) (sSeq (sIf (mT (m2 dEq (mBw 3) (mOf (mCon (.int 1))))) (sRet (mCB dTuple (aCons (mOf (mFn 2 f__law_mixed (aCons (mOf (mVar 0)) (aCons (mOf (mVar 1)) aNil)))) aNil))) sNx) (sSeq (sIf (mT (m2 dEq (mBw 3) (mOf (mCon (.int 2))))) (sRet (mCB dTuple (aCons (mOf (m2 dAdd (mOf (mCut (mBw 1) pNone (pSome (mVar 2)))) (mOf (mCut (mBw 1) (pSome (mCB dMax2 (aCons (mOf (m2 dSub (mBw 2) (mOf (mCon (.int 1))))) (aCons (mOf (mCon (.int 0))) aNil)))) pNone)))) aNil))) sNx) (sSeq (sIf (mT (m2 dEq (mBw 3) (mOf (mCon (.int 3))))) (sRet (mCB dTuple (aCons (mOf (m2 dAdd (mOf (m2 dAdd (mOf (mCut (mBw 1) pNone (pSome (mVar 2)))) (mOf (mVals dDispL (aCons (mOf (mFn 2 f__law_odd (aCons (mOf (mVar 0)) (aCons (mOf (mVals dDispL (aCons (mOf (mCon (.int 1))) (aCons (mOf (mCon (.str "Zz"))) (aCons (mOf (mVals dDispT (aCons (mOf (mCon (.str "a"))) aNil))) (aCons (mOf (mCon (.str "abcdefg"))) aNil)))))) aNil)))) aNil))))) (mOf (mCut (mBw 1) (pSome (mVar 2)) pNone)))) aNil))) sNx) (sSeq (sIf (mT (m2 dEq (mBw 3) (mOf (mCon (.int 4))))) (sRet (mCB dTuple (aCons (mOf (m2 dAdd (mOf (m2 dAdd (mOf (mCut (mBw 1) pNone (pSome (mVar 2)))) (mOf (mVals dDispL (aCons (mOf (mFn 1 f__law_string (aCons (mOf (mVar 0)) aNil))) aNil))))) (mOf (mCut (mBw 1) (pSome (mVar 2)) pNone)))) aNil))) sNx) (sRet (mCB dTuple (aCons (mBw 1) aNil))))))))))
def f__law_things : FM := fM 4 m__law_things
theorem nd__law_things : N__law_things.Nodup := by decide +kernel
theorem sc__law_things : FnScope N__law_things ["_law_bag_here"] (defScope (top 24)) := ⟨rfl, rfl, rfl, nd__law_things, rfl, by decide +kernel, by decide +kernel⟩
theorem ok__law_things {P : Program} {w : World} {mg : Str → Option Value} {base : Heap} {G : Gp} {k : Nat} {a : Addr} {fd : FuncData} (g : mg "_law_things" = some (.ref a)) (F : FunD G.K "_law_things" "_law_things" (defArgs (top 24)) (defBody (top 24)) (defScope (top 24)) [] [] a fd)
    (g_len : mg "len" = none)
    (g_max : mg "max" = none)
    (g_sorted : mg "sorted" = none)
    (g_tuple : mg "tuple" = none)
    (h__law_draw : Fn P w mg base G k "_law_draw" (top 13) ["_law_bag_here", "_law_sides"] f__law_draw)
    (h__law_mixed : Fn P w mg base G k "_law_mixed" (top 15) ["_law_bag_here", "_law_things_here"] f__law_mixed)
    (h__law_names : Fn P w mg base G k "_law_names" (top 18) ["_law_bag_here", "_law_many"] f__law_names)
    (h__law_odd : Fn P w mg base G k "_law_odd" (top 17) ["_law_bag_here", "_law_more"] f__law_odd)
    (h__law_of : Fn P w mg base G k "_law_of" (top 14) ["_law_bag_here", "_law_things_here"] f__law_of)
    (h__law_string : Fn P w mg base G k "_law_string" (top 23) ["_law_bag_here"] f__law_string) : Fn P w mg base G (k + 1) "_law_things" (top 24) ["_law_bag_here"] f__law_things := by
  refine fn_mk (N := N__law_things) (m := m__law_things) g F sc__law_things (fun _ _ _ _ _ _ us hl => match us, hl with | [_], _ => rfl) ?_
  intro cdv A outer s H E hr H0 F0 R0
  have hu := hr.units
  have nd := nd__law_things
  exact (vs_cons (vs_set nd (i := 1) rfl (.inl rfl) (ve_callB cr_sortedA cs_sorted rfl g_sorted bt_sorted rfl (va_cons rfl (vo_of (ve_fn h__law_names rfl hr rfl (va_cons rfl (vo_of (ve_var (pv 0))) (va_cons rfl (vo_of (ve_fn h__law_of rfl hr rfl (va_cons rfl (vo_of (ve_var (pv 0))) (va_cons rfl (vo_of (ve_lst (va_cons rfl (vo_of (ve_con pe_int (fun _ _ => .int _))) (va_cons rfl (vo_of (ve_con pe_int (fun _ _ => .int _))) (va_cons rfl (vo_of (ve_con pe_int (fun _ _ => .int _))) (va_cons rfl (vo_of (ve_con pe_int (fun _ _ => .int _))) (va_cons rfl (vo_of (ve_con pe_int (fun _ _ => .int _))) (va_cons rfl (vo_of (ve_con pe_int (fun _ _ => .int _))) va_nil)))))))) va_nil)) rfl)) va_nil)) rfl)) va_nil) (by decide) (by decide))) (vs_cons (vs_par (i := 2) (j := 3) rfl nd rfl rfl (by decide) rfl rfl (ve_fn h__law_draw rfl hr rfl (va_cons rfl (vo_of (ve_var (pv 0))) (va_cons rfl (vo_of (ve_bin op_addA ops_add (vo_of (ve_callB cr_lenA cs_len rfl g_len bt_len rfl (va_cons rfl (vo_bw (pv 1)) va_nil) (by decide) (by decide))) (vo_of (ve_con pe_int (fun _ _ => .int _))))) va_nil)) rfl) (fun _ _ _ => (ve_fn h__law_draw rfl hr rfl (va_cons rfl (vo_of (ve_var (pv 0))) (va_cons rfl (vo_of (ve_con pe_int (fun _ _ => .int _))) va_nil)) rfl)) rfl rfl (by rfl)) (vs_cons (vs_if (vt_cmp (op_eqA hu) ops_eq (vo_bw (pv 3)) (vo_of (ve_con pe_int (fun _ _ => .int _))) (nomark _)) (vs_one (vs_ret (ve_mov (pv 1)))) vs_nil) (vs_cons (vs_if (vt_cmp (op_eqA hu) ops_eq (vo_bw (pv 3)) (vo_of (ve_con pe_int (fun _ _ => .int _))) (nomark _)) (vs_one (vs_ret (ve_callTy call_tuple_of cs_tuple rfl g_tuple bt_tuple rfl (va_cons rfl (vo_of (ve_fn h__law_mixed rfl hr rfl (va_cons rfl (vo_of (ve_var (pv 0))) (va_cons rfl (vo_of (ve_var (pv 1))) va_nil)) rfl)) va_nil) (by decide) (by decide)))) vs_nil) (vs_cons (vs_if (vt_cmp (op_eqA hu) ops_eq (vo_bw (pv 3)) (vo_of (ve_con pe_int (fun _ _ => .int _))) (nomark _)) (vs_one (vs_ret (ve_callTy call_tuple_of cs_tuple rfl g_tuple bt_tuple rfl (va_cons rfl (vo_of (ve_bin op_addA ops_add (vo_of (ve_cut rfl (vo_bw (pv 1)) vp_none (vp_some (ve_var (pv 2))))) (vo_of (ve_cut rfl (vo_bw (pv 1)) (vp_some (ve_callB (call_max2 rfl) cs_max2 rfl g_max bt_max rfl (va_cons rfl (vo_of (ve_bin op_sub ops_sub (vo_bw (pv 2)) (vo_of (ve_con pe_int (fun _ _ => .int _))))) (va_cons rfl (vo_of (ve_con pe_int (fun _ _ => .int _))) va_nil)) (by decide) (by decide))) vp_none)))) va_nil) (by decide) (by decide)))) vs_nil) (vs_cons (vs_if (vt_cmp (op_eqA hu) ops_eq (vo_bw (pv 3)) (vo_of (ve_con pe_int (fun _ _ => .int _))) (nomark _)) (vs_one (vs_ret (ve_callTy call_tuple_of cs_tuple rfl g_tuple bt_tuple rfl (va_cons rfl (vo_of (ve_bin op_addA ops_add (vo_of (ve_bin op_addA ops_add (vo_of (ve_cut rfl (vo_bw (pv 1)) vp_none (vp_some (ve_var (pv 2))))) (vo_of (ve_lst (va_cons rfl (vo_of (ve_fn h__law_odd rfl hr rfl (va_cons rfl (vo_of (ve_var (pv 0))) (va_cons rfl (vo_of (ve_lst (va_cons rfl (vo_of (ve_con pe_int (fun _ _ => .int _))) (va_cons rfl (vo_of (ve_con pe_str (fun _ _ => .str _))) (va_cons rfl (vo_of (ve_tup (va_cons rfl (vo_of (ve_con pe_str (fun _ _ => .str _))) va_nil))) (va_cons rfl (vo_of (ve_con pe_str (fun _ _ => .str _))) va_nil)))))) va_nil)) rfl)) va_nil))))) (vo_of (ve_cut rfl (vo_bw (pv 1)) (vp_some (ve_var (pv 2))) vp_none)))) va_nil) (by decide) (by decide)))) vs_nil) (vs_cons (vs_if (vt_cmp (op_eqA hu) ops_eq (vo_bw (pv 3)) (vo_of (ve_con pe_int (fun _ _ => .int _))) (nomark _)) (vs_one (vs_ret (ve_callTy call_tuple_of cs_tuple rfl g_tuple bt_tuple rfl (va_cons rfl (vo_of (ve_bin op_addA ops_add (vo_of (ve_bin op_addA ops_add (vo_of (ve_cut rfl (vo_bw (pv 1)) vp_none (vp_some (ve_var (pv 2))))) (vo_of (ve_lst (va_cons rfl (vo_of (ve_fn h__law_string rfl hr rfl (va_cons rfl (vo_of (ve_var (pv 0))) va_nil) rfl)) va_nil))))) (vo_of (ve_cut rfl (vo_bw (pv 1)) (vp_some (ve_var (pv 2))) vp_none)))) va_nil) (by decide) (by decide)))) vs_nil) (vs_one (vs_ret (ve_callTy call_tuple_of cs_tuple rfl g_tuple bt_tuple rfl (va_cons rfl (vo_bw (pv 1)) va_nil) (by decide) (by decide)))))))))))
def N_law : List Str := ["_law_script", "_law_bag_here", "_law_turn", "_law_thing"]
def m_law : MS := (sSeq (sSetC 1 (mFn 1 f__law_bag (aCons (mOf (mVar 0)) aNil))) (sSeq (sFor (iRng1 (aCons (mOf (mCon (.int 8))) aNil)) (gN 2) (sSeq (sIf (tOrM (tNotM (mTru (mOf (mFn 1 f__law_judged (aCons (mOf (mFn 1 f__law_string (aCons (mOf (mVar 1)) aNil))) aNil))))) (tNotM (mTru (mOf (mFn 1 f__law_judged (aCons (mOf (mFn 1 f__law_things (aCons (mOf (mVar 1)) aNil))) aNil)))))) (sRet (mCon (.bool false))) sNx) (sIf (tNotM (mTru (mOf (mFn 1 f__law_judged (aCons (mOf (mFn 2 f__law_odd (aCons (mOf (mVar 1)) (aCons (mOf (mVals dDispL (aCons (mOf (mVals dDispT (aCons (mOf (mCon (.str "a"))) (aCons (mOf (mCon (.str "aa"))) aNil)))) (aCons (mOf (mVals dDispT (aCons (mOf (mCon (.str "b"))) (aCons (mOf (mCon (.str "a"))) aNil)))) (aCons (mOf (mVals dDispT (aCons (mOf (mCon (.str "a"))) (aCons (mOf (mCon (.str "a"))) aNil)))) (aCons (mOf (mVals dDispT (aCons (mOf (mCon (.str "a"))) (aCons (mOf (mCon (.bool true))) aNil)))) (aCons (mOf (mVals dDispT (aCons (mOf (mCon .non)) aNil))) (aCons (mOf (mCon (.int 0))) (aCons (mOf (mCon (.int 1))) aNil))))))))) aNil)))) aNil))))) (sRet (mCon (.bool false))) sNx))) (sSeq (sFor (iAny (mOf (mVals dDispL (aCons (mOf (mCon (.str "abcdef"))) (aCons (mOf (mCon (.str "abcdefg"))) (aCons (mOf (mCon (.str "abcdefghijkl"))) (aCons (mOf (mCon (.str "abcdefghijklm"))) (aCons (mOf (mCon (.str ""))) (aCons (mOf (mVals dDispT aNil)) (aCons (mOf (mVals dDispL aNil)) (aCons (mOf (mVals dDispT (aCons (mOf (mCon (.str ""))) aNil))) (aCons (mOf (mVals dDispT (aCons (mOf (mVals dDispT (aCons (mOf (mCon (.str "a"))) aNil))) (aCons (mOf (mCon (.str "b"))) aNil)))) (aCons (mOf (mCon (.str "a\n"))) aNil))))))))))))) (gN 3) (sIf (tNotM (mTru (mOf (mFn 1 f__law_judged (aCons (mOf (mVar 3)) aNil))))) (sRet (mCon (.bool false))) sNx)) (sRet (mAnd (mFn 1 f__law_numbers (aCons (mOf (mVar 1)) aNil)) (mFn 1 f__law_marked (aCons (mOf (mVar 1)) aNil)))))))
def f_law : FM := fM 4 m_law
theorem nd_law : N_law.Nodup := by decide +kernel
theorem sc_law : FnScope N_law ["_law_script"] (defScope (top 28)) := ⟨rfl, rfl, rfl, nd_law, rfl, by decide +kernel, by decide +kernel⟩
theorem ok_law {P : Program} {w : World} {mg : Str → Option Value} {base : Heap} {G : Gp} {k : Nat} {a : Addr} {fd : FuncData} (g : mg "law" = some (.ref a)) (F : FunD G.K "law" "law" (defArgs (top 28)) (defBody (top 28)) (defScope (top 28)) [] [] a fd)
    (g_range : mg "range" = none)
    (h__law_bag : Fn P w mg base G k "_law_bag" (top 12) ["_law_script"] f__law_bag)
    (h__law_judged : Fn P w mg base G k "_law_judged" (top 25) ["_law_thing"] f__law_judged)
    (h__law_marked : Fn P w mg base G k "_law_marked" (top 27) ["_law_bag_here"] f__law_marked)
    (h__law_numbers : Fn P w mg base G k "_law_numbers" (top 26) ["_law_bag_here"] f__law_numbers)
    (h__law_odd : Fn P w mg base G k "_law_odd" (top 17) ["_law_bag_here", "_law_more"] f__law_odd)
    (h__law_string : Fn P w mg base G k "_law_string" (top 23) ["_law_bag_here"] f__law_string)
    (h__law_things : Fn P w mg base G k "_law_things" (top 24) ["_law_bag_here"] f__law_things) : Fn P w mg base G (k + 1) "law" (top 28) ["_law_script"] f_law := by
  refine fn_mk (N := N_law) (m := m_law) g F sc_law (fun _ _ _ _ _ _ us hl => match us, hl with | [_], _ => rfl) ?_
  intro cdv A outer s H E hr H0 F0 R0
  have hu := hr.units
  have nd := nd_law
  exact (vs_cons (vs_setC nd (i := 1) rfl (.inl rfl) (ve_fn h__law_bag rfl hr rfl (va_cons rfl (vo_of (ve_var (pv 0))) va_nil) rfl)) (vs_cons (vs_for PassesOwn.never rfl (vi_rng1 rfl g_range (va_cons rfl (vo_of (ve_con pe_int (fun _ _ => .int _))) va_nil) rfl) (vg_name nd (i := 2) rfl (.inl rfl)) (vs_cons (vs_if (PW.pt (vw_or (vt_not (vt_tru rfl rfl (vo_of (ve_fn h__law_judged rfl hr rfl (va_cons rfl (vo_of (ve_fn h__law_string rfl hr rfl (va_cons rfl (vo_of (ve_var (pv 1))) va_nil) rfl)) va_nil) rfl)))) (vw_or1 (vt_not (vt_tru rfl rfl (vo_of (ve_fn h__law_judged rfl hr rfl (va_cons rfl (vo_of (ve_fn h__law_things rfl hr rfl (va_cons rfl (vo_of (ve_var (pv 1))) va_nil) rfl)) va_nil) rfl))))))) (vs_one (vs_ret (ve_con pe_bl (fun _ _ => .bool _)))) vs_nil) (vs_one (vs_if (vt_not (vt_tru rfl rfl (vo_of (ve_fn h__law_judged rfl hr rfl (va_cons rfl (vo_of (ve_fn h__law_odd rfl hr rfl (va_cons rfl (vo_of (ve_var (pv 1))) (va_cons rfl (vo_of (ve_lst (va_cons rfl (vo_of (ve_tup (va_cons rfl (vo_of (ve_con pe_str (fun _ _ => .str _))) (va_cons rfl (vo_of (ve_con pe_str (fun _ _ => .str _))) va_nil)))) (va_cons rfl (vo_of (ve_tup (va_cons rfl (vo_of (ve_con pe_str (fun _ _ => .str _))) (va_cons rfl (vo_of (ve_con pe_str (fun _ _ => .str _))) va_nil)))) (va_cons rfl (vo_of (ve_tup (va_cons rfl (vo_of (ve_con pe_str (fun _ _ => .str _))) (va_cons rfl (vo_of (ve_con pe_str (fun _ _ => .str _))) va_nil)))) (va_cons rfl (vo_of (ve_tup (va_cons rfl (vo_of (ve_con pe_str (fun _ _ => .str _))) (va_cons rfl (vo_of (ve_con pe_bl (fun _ _ => .bool _))) va_nil)))) (va_cons rfl (vo_of (ve_tup (va_cons rfl (vo_of (ve_con pe_non (fun _ _ => .non))) va_nil))) (va_cons rfl (vo_of (ve_con pe_int (fun _ _ => .int _))) (va_cons rfl (vo_of (ve_con pe_int (fun _ _ => .int _))) va_nil))))))))) va_nil)) rfl)) va_nil) rfl)))) (vs_one (vs_ret (ve_con pe_bl (fun _ _ => .bool _)))) vs_nil)))) (vs_cons (vs_for PassesOwn.never rfl (vi_any rfl (vo_of (ve_lst (va_cons rfl (vo_of (ve_con pe_str (fun _ _ => .str _))) (va_cons rfl (vo_of (ve_con pe_str (fun _ _ => .str _))) (va_cons rfl (vo_of (ve_con pe_str (fun _ _ => .str _))) (va_cons rfl (vo_of (ve_con pe_str (fun _ _ => .str _))) (va_cons rfl (vo_of (ve_con pe_str (fun _ _ => .str _))) (va_cons rfl (vo_of (ve_tup va_nil)) (va_cons rfl (vo_of (ve_lst va_nil)) (va_cons rfl (vo_of (ve_tup (va_cons rfl (vo_of (ve_con pe_str (fun _ _ => .str _))) va_nil))) (va_cons rfl (vo_of (ve_tup (va_cons rfl (vo_of (ve_tup (va_cons rfl (vo_of (ve_con pe_str (fun _ _ => .str _))) va_nil))) (va_cons rfl (vo_of (ve_con pe_str (fun _ _ => .str _))) va_nil)))) (va_cons rfl (vo_of (ve_con pe_str (fun _ _ => .str _))) va_nil))))))))))))) (vg_name nd (i := 3) rfl (.inl rfl)) (vs_one (vs_if (vt_not (vt_tru rfl rfl (vo_of (ve_fn h__law_judged rfl hr rfl (va_cons rfl (vo_of (ve_var (pv 3))) va_nil) rfl)))) (vs_one (vs_ret (ve_con pe_bl (fun _ _ => .bool _)))) vs_nil))) (vs_one (vs_ret (ve_and (ve_fn h__law_numbers rfl hr rfl (va_cons rfl (vo_of (ve_var (pv 1))) va_nil) rfl) (ve_one (ve_fn h__law_marked rfl hr rfl (va_cons rfl (vo_of (ve_var (pv 1))) va_nil) rfl))))))))
end KW

set_option Elab.async false
set_option linter.all false
set_option maxRecDepth 100000
namespace KW
open PySem PySem.Spec L2 EV
open PyProof.Rows hiding St
/-! ### draws -/
/-- the bag -/
def bagD (ns : List Int) (a : Nat) (b m k : Int) : EV.D := .lst [.lst (ns.map .int), .int a, .int b, .int m, .int k]
theorem jx1 : ixN 5 1 = some 1 := rfl
theorem jx2 : ixN 5 2 = some 2 := rfl
theorem jx3 : ixN 5 3 = some 3 := rfl
theorem jx4 : ixN 5 4 = some 4 := rfl
/-- a bag that is in order, the numbers of it -/
structure BagOk (ns : List Int) (a : Nat) (b m : Int) : Prop where
  a : a ≤ ns.length
  b : 0 ≤ b
  m0 : 0 ≤ m
  m1 : m < 2147483587
/-- a draw: a number below sides; the bag in order again -/
theorem draw_ok {ns : List Int} {a : Nat} {b m k sides : Int} {c : CL} {i : Nat} (h : c[i]? = some (bagD ns a b m k)) (B : BagOk ns a b m) (hs : 0 < sides) (hs2 : sides.natAbs.log2 < 9000) :
    ∃ r a' b' m' k', f__law_draw [.cell i, .int sides] c = .ok (.int r, false) [] (c.set i (bagD ns a' b' m' k')) ∧ 0 ≤ r ∧ r < sides ∧ BagOk ns a' b' m' := by
  have hi : i < c.length := (List.getElem?_eq_some_iff.mp h).1
  have gs : ∀ d : EV.D, (c.set i d)[i]? = some d := fun d => List.getElem?_set_self hi
  have e3 : (0 < sides) = True := by simp [hs]
  have cd : ∀ x, CDivW x sides = True := fun x => eq_true (cdiv hs hs2)
  have cm : ∀ x, CMulS x 43889 = True := fun x => eq_true (cmulR (by decide))
  have cm2 : ∀ x, CMulS x 787 = True := fun x => eq_true (cmulR (by decide))
  have cm3 : ∀ x, CMulS x 23 = True := fun x => eq_true (cmulR (by decide))
  have cm4 : ∀ x, CMulS x 47111 = True := fun x => eq_true (cmulR (by decide))
  have cm5 : ∀ x, CMulS x 110323 = True := fun x => eq_true (cmulR (by decide))
  have cm6 : ∀ x, CMulS x 61 = True := fun x => eq_true (cmulR (by decide))
  have cd7 : ∀ x, CDivW x 73 = True := fun x => eq_true (cdiv (by decide) (by decide))
  have p1 : ((0 : Int) < 1000639) = True := by decide
  have p2 : ((0 : Int) < 2147483587) = True := by decide
  have p3 : ((0 : Int) < 2147483549) = True := by decide
  have p4 : ((0 : Int) < 8017) = True := by decide
  have p5 : CPow 10 18 = True := by simp [CPow]
  have p6 : ((10 : Int) ^ (18 : Int).toNat) = 1000000000000000000 := by decide
  -- behind the first part
  have tail : ∀ (ns : List Int) (a : Nat) (b m k : Int), BagOk ns a b m → ∀ (x2 : SV), ∃ r b' m' k', endF ((sSeq (sIf (mT (m2 dGt (mOf (m2 dIx (mBw 0) (mOf (mCon (.int 2))))) (mOf (mCon (.int 0))))) (sSeq (sSet 3 (m2 dMod (mOf (mCB dInt (aCons (mOf (m2 dIx (mBw 0) (mOf (mCon (.int 2))))) aNil))) (mBw 1))) (sSeq (sPut 0 (m2 dDiv (mOf (m2 dIx (mBw 0) (mOf (mCon (.int 2))))) (mBw 1)) (mOf (mCon (.int 2)))) (sRet (mMov 3)))) sNx) (sSeq (sSet 4 (mCB dInt (aCons (mOf (m2 dIx (mBw 0) (mOf (mCon (.int 3))))) aNil))) (sSeq (sPut 0 (m2 dMod (mOf (mCB dInt (aCons (mOf (m2 dAdd (mOf (m2 dAdd (mOf (m2 dAdd (mOf (m2 dMul (mOf (m2 dMul (mBw 4) (mBw 4))) (mOf (mCon (.int 23))))) (mOf (m2 dMul (mBw 4) (mOf (mCon (.int 47111))))))) (mOf (m2 dMul (mOf (m2 dIx (mBw 0) (mOf (mCon (.int 4))))) (mOf (mCon (.int 110323))))))) (mOf (mCon (.int 60089))))) aNil))) (mOf (mCon (.int 2147483549)))) (mOf (mCon (.int 3)))) (sRet (m2 dMod (mOf (mCB dInt (aCons (mOf (m2 dAdd (mOf (m2 dDiv (mOf (m2 dIx (mBw 0) (mOf (mCon (.int 3))))) (mOf (mCon (.int 73))))) (mOf (m2 dMul (mOf (m2 dMod (mOf (mCB dInt (aCons (mOf (m2 dIx (mBw 0) (mOf (mCon (.int 3))))) aNil))) (mOf (mCon (.int 8017))))) (mOf (mCon (.int 61))))))) aNil))) (mBw 1)))))) [.fz (.cell i), .fz (.int sides), x2, .no, .no] (c.set i (bagD ns a b m k))) = .ok (.int r, false) [] (c.set i (bagD ns a b' m' k')) ∧ 0 ≤ r ∧ r < sides ∧ BagOk ns a b' m' := by
    intro ns a b m k B x2
    by_cases hb : 0 < b
    · have e2 : (0 < b) = True := by simp [hb]
      simp only [bagD, gs, ix0, ix1, ix2, ix3, ix4, jx1, jx2, jx3, jx4, e2, e3, cd, b_ok, b_bad, b_ex, f_ok, f_bad, f_ex, n_nx, n_rt, n_bk, n_ct, n_ex, n_bad, l_nx, l_rt, l_bk, l_ct, l_ex, l_bad, sNx_e, sSeq_e, sBk_e, sCt_e, sRetN_e, sExp_e, kExp_e, sRet_e, kRet_e, sIf_e, kIf_t, kIf_f, sSet_e, kSet_e, svOf_t, svOf_f, sSetC_e, kCell_e, sAsg_e, kG1_e, oF_s, oF_n, gN_e, gT_e, gsNil_e, gsCons_e, sPar_e, kPar1_e, kPar2_e, sPar3_e, kPr1_e, kPr2_e, kPr3_e, sPut_e, kPut1_e, kPut2_e, isLst_l, kPut_e, kPt_e, kPu_e, plGet_e, pG_o, pG_c, plS_e, pS_o, pS_f, plC_e, pC_o, pC_c, mFr_e, kFz_e, mVar_e, kVar_f, kVar_o, mMov_e, kMov_f, kMov_o, mBw_e, kBw_f, kBw_o, mCon_e, mOf_e, kOf_e, o2_e, m2_e, k2a_e, k2b_e, kDB_s, kDB_n, fl_e, m1_e, k1a_e, get_dv, get_bw, sv_f, sv_o, sv_n, de_cell, de_non, de_bool, de_int, de_str, de_fn, de_rol, de_lst, de_tup, de_dct, de_dtt, de_ins, mCB_e, kCB_e, getAll_n, getAll_c, g2_e, mVals_e, kVl_e, vals_n, vals_c, aNil_e, aCons_e, kC1_e, kC2_e, mT_e, kTb_e, tAnd_e, kAn_t, kAn_f, tOr_e, kOr_t, kOr_f, tNot_e, kNt_e, mTru_e, kTr_e, kO_s, dTru_b, mIf_e, kIfe_t, kIfe_f, mAnd_e, kAnd_t, kAnd_f, mOr_e, kOr2_t, kOr2_f, mNot_e, kNot2_e, kFr_o, mFn_e, kF1_e, kFn_e, mFnK_e, kK1_e, v2_e, kK2_e, mMut_e, kMu_e, mMut0_e, oM_e, kMut_e, pNone_e, pSome_e, kPs_e, mCut_e, kCt1_e, kCt2_e, oC3_e, kCt3_e, fM_e, endF_n, endF_r, dAdd_i, dAdd_s, dAdd_l, dAdd_t, dSub_i, dMul_i, dDiv_i, dMod_i, dPow_i, dLt_i, dLe_i, dGt_i, dGe_i, dLt_s, dEq_i, dEq_b, dEq_s, dNe_i, dNe_b, dNe_s, dInt_i, dAbs_i, dLen_l, dLen_r, dLen_t, dLen_s, dIx_l, dIx_r, dIx_t, dList_l, dList_r, dList_t, dTuple_l, dTuple_t, dDispL_e, dDispT_e, dIsN_n, dNotN_n, dIsN_bool, dNotN_bool, dIsN_int, dNotN_int, dIsN_str, dNotN_str, dIsN_lst, dNotN_lst, dIsN_tup, dNotN_tup, dIsi_non, dIsiT_non, dIsi_bool, dIsiT_bool, dIsi_int, dIsiT_int, dIsi_str, dIsiT_str, dIsi_lst, dIsiT_lst, dIsi_rol, dIsiT_rol, dIsi_tup, dIsiT_tup, mChain_e, kH1_e, kH2_e, kH3_t, kH3_f, kH4_e, mM1_e, kM1_e, kM2_e, kM3_e, mJs_n, mJs_c, kJ_e, dFmt_s, dNeg_i, dDivmod_e, dMax2_e, dMin2_e, dCut_l, dCut_r, dCut_t, dCut_s, dPop_e, fApp_e, List.getElem?_cons_zero, List.getElem?_cons_succ, List.set_cons_zero, List.set_cons_succ, Option.bind_some, Option.bind_none, Option.map_some, Option.map_none, List.map_cons, List.map_nil, List.length_cons, List.length_nil, List.replicate, List.cons_append, List.nil_append, List.set_set, if_true, if_false, ite_true, ite_false, reduceIte, Nat.reduceAdd, Nat.reduceSub, Nat.zero_add, Nat.add_zero, Bool.not_true, Bool.not_false, decide_true, decide_false, Bool.true_and, Bool.and_true, Bool.false_and, Bool.and_false, Bool.or_true, Bool.true_or, Bool.or_false, Bool.false_or, eq_self]
      refine ⟨_, _, _, _, rfl, Int.emod_nonneg _ (by omega), Int.emod_lt_of_pos _ hs, B.a, Int.ediv_nonneg B.b (by omega), B.m0, B.m1⟩
    · have e2 : (0 < b) = False := by simp [hb]
      have c8 : CMulS m m = True := eq_true (cmulR (by have := B.m0; have := B.m1; omega))
      simp only [bagD, gs, ix0, ix1, ix2, ix3, ix4, jx1, jx2, jx3, jx4, e2, e3, cd, cm3, cm4, cm5, cm6, cd7, p3, p4, c8, b_ok, b_bad, b_ex, f_ok, f_bad, f_ex, n_nx, n_rt, n_bk, n_ct, n_ex, n_bad, l_nx, l_rt, l_bk, l_ct, l_ex, l_bad, sNx_e, sSeq_e, sBk_e, sCt_e, sRetN_e, sExp_e, kExp_e, sRet_e, kRet_e, sIf_e, kIf_t, kIf_f, sSet_e, kSet_e, svOf_t, svOf_f, sSetC_e, kCell_e, sAsg_e, kG1_e, oF_s, oF_n, gN_e, gT_e, gsNil_e, gsCons_e, sPar_e, kPar1_e, kPar2_e, sPar3_e, kPr1_e, kPr2_e, kPr3_e, sPut_e, kPut1_e, kPut2_e, isLst_l, kPut_e, kPt_e, kPu_e, plGet_e, pG_o, pG_c, plS_e, pS_o, pS_f, plC_e, pC_o, pC_c, mFr_e, kFz_e, mVar_e, kVar_f, kVar_o, mMov_e, kMov_f, kMov_o, mBw_e, kBw_f, kBw_o, mCon_e, mOf_e, kOf_e, o2_e, m2_e, k2a_e, k2b_e, kDB_s, kDB_n, fl_e, m1_e, k1a_e, get_dv, get_bw, sv_f, sv_o, sv_n, de_cell, de_non, de_bool, de_int, de_str, de_fn, de_rol, de_lst, de_tup, de_dct, de_dtt, de_ins, mCB_e, kCB_e, getAll_n, getAll_c, g2_e, mVals_e, kVl_e, vals_n, vals_c, aNil_e, aCons_e, kC1_e, kC2_e, mT_e, kTb_e, tAnd_e, kAn_t, kAn_f, tOr_e, kOr_t, kOr_f, tNot_e, kNt_e, mTru_e, kTr_e, kO_s, dTru_b, mIf_e, kIfe_t, kIfe_f, mAnd_e, kAnd_t, kAnd_f, mOr_e, kOr2_t, kOr2_f, mNot_e, kNot2_e, kFr_o, mFn_e, kF1_e, kFn_e, mFnK_e, kK1_e, v2_e, kK2_e, mMut_e, kMu_e, mMut0_e, oM_e, kMut_e, pNone_e, pSome_e, kPs_e, mCut_e, kCt1_e, kCt2_e, oC3_e, kCt3_e, fM_e, endF_n, endF_r, dAdd_i, dAdd_s, dAdd_l, dAdd_t, dSub_i, dMul_i, dDiv_i, dMod_i, dPow_i, dLt_i, dLe_i, dGt_i, dGe_i, dLt_s, dEq_i, dEq_b, dEq_s, dNe_i, dNe_b, dNe_s, dInt_i, dAbs_i, dLen_l, dLen_r, dLen_t, dLen_s, dIx_l, dIx_r, dIx_t, dList_l, dList_r, dList_t, dTuple_l, dTuple_t, dDispL_e, dDispT_e, dIsN_n, dNotN_n, dIsN_bool, dNotN_bool, dIsN_int, dNotN_int, dIsN_str, dNotN_str, dIsN_lst, dNotN_lst, dIsN_tup, dNotN_tup, dIsi_non, dIsiT_non, dIsi_bool, dIsiT_bool, dIsi_int, dIsiT_int, dIsi_str, dIsiT_str, dIsi_lst, dIsiT_lst, dIsi_rol, dIsiT_rol, dIsi_tup, dIsiT_tup, mChain_e, kH1_e, kH2_e, kH3_t, kH3_f, kH4_e, mM1_e, kM1_e, kM2_e, kM3_e, mJs_n, mJs_c, kJ_e, dFmt_s, dNeg_i, dDivmod_e, dMax2_e, dMin2_e, dCut_l, dCut_r, dCut_t, dCut_s, dPop_e, fApp_e, List.getElem?_cons_zero, List.getElem?_cons_succ, List.set_cons_zero, List.set_cons_succ, Option.bind_some, Option.bind_none, Option.map_some, Option.map_none, List.map_cons, List.map_nil, List.length_cons, List.length_nil, List.replicate, List.cons_append, List.nil_append, List.set_set, if_true, if_false, ite_true, ite_false, reduceIte, Nat.reduceAdd, Nat.reduceSub, Nat.zero_add, Nat.add_zero, Bool.not_true, Bool.not_false, decide_true, decide_false, Bool.true_and, Bool.and_true, Bool.false_and, Bool.and_false, Bool.or_true, Bool.true_or, Bool.or_false, Bool.false_or, eq_self]
      refine ⟨_, _, _, _, rfl, Int.emod_nonneg _ (by omega), Int.emod_lt_of_pos _ hs, B.a, B.b, Int.emod_nonneg _ (by decide), ?_⟩
      have := Int.emod_lt_of_pos (m * m * 23 + m * 47111 + k * 110323 + 60089) (show (0 : Int) < 2147483549 by decide)
      omega
  have fin : ∀ (o : Fl) (S : MS) (ns' : List Int) (a' : Nat) (b' m' k' : Int) (x2 : SV), o = .nx [.fz (.cell i), .fz (.int sides), x2, .no, .no] (c.set i (bagD ns' a' b' m' k')) → BagOk ns' a' b' m' → ns' = ns →
      (∀ (a : Nat) (b m k : Int), BagOk ns a b m → ∀ (x2 : SV), ∃ r b' m' k', endF (S [.fz (.cell i), .fz (.int sides), x2, .no, .no] (c.set i (bagD ns a b m k))) = .ok (.int r, false) [] (c.set i (bagD ns a b' m' k')) ∧ 0 ≤ r ∧ r < sides ∧ BagOk ns a b' m') →
      ∃ r a' b' m' k', endF (o.nxt S) = .ok (.int r, false) [] (c.set i (bagD ns a' b' m' k')) ∧ 0 ≤ r ∧ r < sides ∧ BagOk ns a' b' m' := by
    intro o S ns' a' b' m' k' x2 e B' en t
    subst e en
    obtain ⟨r, b2, m2, k2, h1, h2, h3, h4⟩ := t a' b' m' k' B' x2
    exact ⟨r, a', b2, m2, k2, h1, h2, h3, h4⟩
  have first : (sPut 0 (m2 dAdd (mOf (m2 dIx (mBw 0) (mOf (mCon (.int 4))))) (mOf (mCon (.int 1)))) (mOf (mCon (.int 4)))) [.fz (.cell i), .fz (.int sides), .no, .no, .no] c = .nx [.fz (.cell i), .fz (.int sides), .no, .no, .no] (c.set i (bagD ns a b m (k + 1))) := by
    unfold bagD at h ⊢
    simp only [h, gs, ix0, ix1, ix2, ix3, ix4, jx1, jx2, jx3, jx4, b_ok, b_bad, b_ex, f_ok, f_bad, f_ex, n_nx, n_rt, n_bk, n_ct, n_ex, n_bad, l_nx, l_rt, l_bk, l_ct, l_ex, l_bad, sNx_e, sSeq_e, sBk_e, sCt_e, sRetN_e, sExp_e, kExp_e, sRet_e, kRet_e, sIf_e, kIf_t, kIf_f, sSet_e, kSet_e, svOf_t, svOf_f, sSetC_e, kCell_e, sAsg_e, kG1_e, oF_s, oF_n, gN_e, gT_e, gsNil_e, gsCons_e, sPar_e, kPar1_e, kPar2_e, sPar3_e, kPr1_e, kPr2_e, kPr3_e, sPut_e, kPut1_e, kPut2_e, isLst_l, kPut_e, kPt_e, kPu_e, plGet_e, pG_o, pG_c, plS_e, pS_o, pS_f, plC_e, pC_o, pC_c, mFr_e, kFz_e, mVar_e, kVar_f, kVar_o, mMov_e, kMov_f, kMov_o, mBw_e, kBw_f, kBw_o, mCon_e, mOf_e, kOf_e, o2_e, m2_e, k2a_e, k2b_e, kDB_s, kDB_n, fl_e, m1_e, k1a_e, get_dv, get_bw, sv_f, sv_o, sv_n, de_cell, de_non, de_bool, de_int, de_str, de_fn, de_rol, de_lst, de_tup, de_dct, de_dtt, de_ins, mCB_e, kCB_e, getAll_n, getAll_c, g2_e, mVals_e, kVl_e, vals_n, vals_c, aNil_e, aCons_e, kC1_e, kC2_e, mT_e, kTb_e, tAnd_e, kAn_t, kAn_f, tOr_e, kOr_t, kOr_f, tNot_e, kNt_e, mTru_e, kTr_e, kO_s, dTru_b, mIf_e, kIfe_t, kIfe_f, mAnd_e, kAnd_t, kAnd_f, mOr_e, kOr2_t, kOr2_f, mNot_e, kNot2_e, kFr_o, mFn_e, kF1_e, kFn_e, mFnK_e, kK1_e, v2_e, kK2_e, mMut_e, kMu_e, mMut0_e, oM_e, kMut_e, pNone_e, pSome_e, kPs_e, mCut_e, kCt1_e, kCt2_e, oC3_e, kCt3_e, fM_e, endF_n, endF_r, dAdd_i, dAdd_s, dAdd_l, dAdd_t, dSub_i, dMul_i, dDiv_i, dMod_i, dPow_i, dLt_i, dLe_i, dGt_i, dGe_i, dLt_s, dEq_i, dEq_b, dEq_s, dNe_i, dNe_b, dNe_s, dInt_i, dAbs_i, dLen_l, dLen_r, dLen_t, dLen_s, dIx_l, dIx_r, dIx_t, dList_l, dList_r, dList_t, dTuple_l, dTuple_t, dDispL_e, dDispT_e, dIsN_n, dNotN_n, dIsN_bool, dNotN_bool, dIsN_int, dNotN_int, dIsN_str, dNotN_str, dIsN_lst, dNotN_lst, dIsN_tup, dNotN_tup, dIsi_non, dIsiT_non, dIsi_bool, dIsiT_bool, dIsi_int, dIsiT_int, dIsi_str, dIsiT_str, dIsi_lst, dIsiT_lst, dIsi_rol, dIsiT_rol, dIsi_tup, dIsiT_tup, mChain_e, kH1_e, kH2_e, kH3_t, kH3_f, kH4_e, mM1_e, kM1_e, kM2_e, kM3_e, mJs_n, mJs_c, kJ_e, dFmt_s, dNeg_i, dDivmod_e, dMax2_e, dMin2_e, dCut_l, dCut_r, dCut_t, dCut_s, dPop_e, fApp_e, List.getElem?_cons_zero, List.getElem?_cons_succ, List.set_cons_zero, List.set_cons_succ, Option.bind_some, Option.bind_none, Option.map_some, Option.map_none, List.map_cons, List.map_nil, List.length_cons, List.length_nil, List.replicate, List.cons_append, List.nil_append, List.set_set, if_true, if_false, ite_true, ite_false, reduceIte, Nat.reduceAdd, Nat.reduceSub, Nat.zero_add, Nat.add_zero, Bool.not_true, Bool.not_false, decide_true, decide_false, Bool.true_and, Bool.and_true, Bool.false_and, Bool.and_false, Bool.or_true, Bool.true_or, Bool.or_false, Bool.false_or, eq_self]
  unfold f__law_draw m__law_draw
  simp only [fM_e, List.map_cons, List.map_nil, List.length_cons, List.length_nil, Nat.reduceAdd, Nat.zero_add, Nat.reduceSub, List.replicate, List.cons_append, List.nil_append, sSeq_e, first, n_nx]
  by_cases hb : b = 0
  · subst hb
    by_cases ha : a < ns.length
    · have e2 : ((a : Int) < ((ns.map EV.D.int).length : Int)) = True := by simp; exact ha
      have e5 : (ns.map EV.D.int)[a]? = some (.int ns[a]) := by rw [List.getElem?_map, List.getElem?_eq_getElem ha]; rfl
      have e6 : atI (ns.map EV.D.int) (a : Int) = some (.int ns[a]) := atI_n e5
      by_cases hx : (1000000000000000000 : Int) ≤ (if ns[a] < 0 then -ns[a] else ns[a])
      · have e7 : ((1000000000000000000 : Int) ≤ (if ns[a] < 0 then -ns[a] else ns[a])) = True := eq_true hx
        refine fin _ _ ns (a + 1) (if ns[a] < 0 then -ns[a] else ns[a]) m (k + 1) (.fz (.int ns[a])) ?_ ⟨ha, by omega, B.m0, B.m1⟩ rfl (fun a b m k B x2 => tail ns a b m k B x2)
        simp only [bagD, gs, ix0, ix1, ix2, ix3, ix4, jx1, jx2, jx3, jx4, e2, e6, e7, p5, p6, Int.natCast_add, Int.cast_ofNat_Int, b_ok, b_bad, b_ex, f_ok, f_bad, f_ex, n_nx, n_rt, n_bk, n_ct, n_ex, n_bad, l_nx, l_rt, l_bk, l_ct, l_ex, l_bad, sNx_e, sSeq_e, sBk_e, sCt_e, sRetN_e, sExp_e, kExp_e, sRet_e, kRet_e, sIf_e, kIf_t, kIf_f, sSet_e, kSet_e, svOf_t, svOf_f, sSetC_e, kCell_e, sAsg_e, kG1_e, oF_s, oF_n, gN_e, gT_e, gsNil_e, gsCons_e, sPar_e, kPar1_e, kPar2_e, sPar3_e, kPr1_e, kPr2_e, kPr3_e, sPut_e, kPut1_e, kPut2_e, isLst_l, kPut_e, kPt_e, kPu_e, plGet_e, pG_o, pG_c, plS_e, pS_o, pS_f, plC_e, pC_o, pC_c, mFr_e, kFz_e, mVar_e, kVar_f, kVar_o, mMov_e, kMov_f, kMov_o, mBw_e, kBw_f, kBw_o, mCon_e, mOf_e, kOf_e, o2_e, m2_e, k2a_e, k2b_e, kDB_s, kDB_n, fl_e, m1_e, k1a_e, get_dv, get_bw, sv_f, sv_o, sv_n, de_cell, de_non, de_bool, de_int, de_str, de_fn, de_rol, de_lst, de_tup, de_dct, de_dtt, de_ins, mCB_e, kCB_e, getAll_n, getAll_c, g2_e, mVals_e, kVl_e, vals_n, vals_c, aNil_e, aCons_e, kC1_e, kC2_e, mT_e, kTb_e, tAnd_e, kAn_t, kAn_f, tOr_e, kOr_t, kOr_f, tNot_e, kNt_e, mTru_e, kTr_e, kO_s, dTru_b, mIf_e, kIfe_t, kIfe_f, mAnd_e, kAnd_t, kAnd_f, mOr_e, kOr2_t, kOr2_f, mNot_e, kNot2_e, kFr_o, mFn_e, kF1_e, kFn_e, mFnK_e, kK1_e, v2_e, kK2_e, mMut_e, kMu_e, mMut0_e, oM_e, kMut_e, pNone_e, pSome_e, kPs_e, mCut_e, kCt1_e, kCt2_e, oC3_e, kCt3_e, fM_e, endF_n, endF_r, dAdd_i, dAdd_s, dAdd_l, dAdd_t, dSub_i, dMul_i, dDiv_i, dMod_i, dPow_i, dLt_i, dLe_i, dGt_i, dGe_i, dLt_s, dEq_i, dEq_b, dEq_s, dNe_i, dNe_b, dNe_s, dInt_i, dAbs_i, dLen_l, dLen_r, dLen_t, dLen_s, dIx_l, dIx_r, dIx_t, dList_l, dList_r, dList_t, dTuple_l, dTuple_t, dDispL_e, dDispT_e, dIsN_n, dNotN_n, dIsN_bool, dNotN_bool, dIsN_int, dNotN_int, dIsN_str, dNotN_str, dIsN_lst, dNotN_lst, dIsN_tup, dNotN_tup, dIsi_non, dIsiT_non, dIsi_bool, dIsiT_bool, dIsi_int, dIsiT_int, dIsi_str, dIsiT_str, dIsi_lst, dIsiT_lst, dIsi_rol, dIsiT_rol, dIsi_tup, dIsiT_tup, mChain_e, kH1_e, kH2_e, kH3_t, kH3_f, kH4_e, mM1_e, kM1_e, kM2_e, kM3_e, mJs_n, mJs_c, kJ_e, dFmt_s, dNeg_i, dDivmod_e, dMax2_e, dMin2_e, dCut_l, dCut_r, dCut_t, dCut_s, dPop_e, fApp_e, List.getElem?_cons_zero, List.getElem?_cons_succ, List.set_cons_zero, List.set_cons_succ, Option.bind_some, Option.bind_none, Option.map_some, Option.map_none, List.map_cons, List.map_nil, List.length_cons, List.length_nil, List.replicate, List.cons_append, List.nil_append, List.set_set, if_true, if_false, ite_true, ite_false, reduceIte, Nat.reduceAdd, Nat.reduceSub, Nat.zero_add, Nat.add_zero, Bool.not_true, Bool.not_false, decide_true, decide_false, Bool.true_and, Bool.and_true, Bool.false_and, Bool.and_false, Bool.or_true, Bool.true_or, Bool.or_false, Bool.false_or, eq_self]
      · have e7 : ((1000000000000000000 : Int) ≤ (if ns[a] < 0 then -ns[a] else ns[a])) = False := eq_false hx
        refine fin _ _ ns (a + 1) 0 ((m * 43889 + ns[a] % 1000639 * 787 + 31) % 2147483587) (k + 1) (.fz (.int ns[a])) ?_ ⟨ha, by omega, Int.emod_nonneg _ (by decide), Int.emod_lt_of_pos _ (by decide)⟩ rfl (fun a b m k B x2 => tail ns a b m k B x2)
        simp only [bagD, gs, ix0, ix1, ix2, ix3, ix4, jx1, jx2, jx3, jx4, e2, e6, e7, p1, p2, p5, p6, cm, cm2, Int.natCast_add, Int.cast_ofNat_Int, b_ok, b_bad, b_ex, f_ok, f_bad, f_ex, n_nx, n_rt, n_bk, n_ct, n_ex, n_bad, l_nx, l_rt, l_bk, l_ct, l_ex, l_bad, sNx_e, sSeq_e, sBk_e, sCt_e, sRetN_e, sExp_e, kExp_e, sRet_e, kRet_e, sIf_e, kIf_t, kIf_f, sSet_e, kSet_e, svOf_t, svOf_f, sSetC_e, kCell_e, sAsg_e, kG1_e, oF_s, oF_n, gN_e, gT_e, gsNil_e, gsCons_e, sPar_e, kPar1_e, kPar2_e, sPar3_e, kPr1_e, kPr2_e, kPr3_e, sPut_e, kPut1_e, kPut2_e, isLst_l, kPut_e, kPt_e, kPu_e, plGet_e, pG_o, pG_c, plS_e, pS_o, pS_f, plC_e, pC_o, pC_c, mFr_e, kFz_e, mVar_e, kVar_f, kVar_o, mMov_e, kMov_f, kMov_o, mBw_e, kBw_f, kBw_o, mCon_e, mOf_e, kOf_e, o2_e, m2_e, k2a_e, k2b_e, kDB_s, kDB_n, fl_e, m1_e, k1a_e, get_dv, get_bw, sv_f, sv_o, sv_n, de_cell, de_non, de_bool, de_int, de_str, de_fn, de_rol, de_lst, de_tup, de_dct, de_dtt, de_ins, mCB_e, kCB_e, getAll_n, getAll_c, g2_e, mVals_e, kVl_e, vals_n, vals_c, aNil_e, aCons_e, kC1_e, kC2_e, mT_e, kTb_e, tAnd_e, kAn_t, kAn_f, tOr_e, kOr_t, kOr_f, tNot_e, kNt_e, mTru_e, kTr_e, kO_s, dTru_b, mIf_e, kIfe_t, kIfe_f, mAnd_e, kAnd_t, kAnd_f, mOr_e, kOr2_t, kOr2_f, mNot_e, kNot2_e, kFr_o, mFn_e, kF1_e, kFn_e, mFnK_e, kK1_e, v2_e, kK2_e, mMut_e, kMu_e, mMut0_e, oM_e, kMut_e, pNone_e, pSome_e, kPs_e, mCut_e, kCt1_e, kCt2_e, oC3_e, kCt3_e, fM_e, endF_n, endF_r, dAdd_i, dAdd_s, dAdd_l, dAdd_t, dSub_i, dMul_i, dDiv_i, dMod_i, dPow_i, dLt_i, dLe_i, dGt_i, dGe_i, dLt_s, dEq_i, dEq_b, dEq_s, dNe_i, dNe_b, dNe_s, dInt_i, dAbs_i, dLen_l, dLen_r, dLen_t, dLen_s, dIx_l, dIx_r, dIx_t, dList_l, dList_r, dList_t, dTuple_l, dTuple_t, dDispL_e, dDispT_e, dIsN_n, dNotN_n, dIsN_bool, dNotN_bool, dIsN_int, dNotN_int, dIsN_str, dNotN_str, dIsN_lst, dNotN_lst, dIsN_tup, dNotN_tup, dIsi_non, dIsiT_non, dIsi_bool, dIsiT_bool, dIsi_int, dIsiT_int, dIsi_str, dIsiT_str, dIsi_lst, dIsiT_lst, dIsi_rol, dIsiT_rol, dIsi_tup, dIsiT_tup, mChain_e, kH1_e, kH2_e, kH3_t, kH3_f, kH4_e, mM1_e, kM1_e, kM2_e, kM3_e, mJs_n, mJs_c, kJ_e, dFmt_s, dNeg_i, dDivmod_e, dMax2_e, dMin2_e, dCut_l, dCut_r, dCut_t, dCut_s, dPop_e, fApp_e, List.getElem?_cons_zero, List.getElem?_cons_succ, List.set_cons_zero, List.set_cons_succ, Option.bind_some, Option.bind_none, Option.map_some, Option.map_none, List.map_cons, List.map_nil, List.length_cons, List.length_nil, List.replicate, List.cons_append, List.nil_append, List.set_set, if_true, if_false, ite_true, ite_false, reduceIte, Nat.reduceAdd, Nat.reduceSub, Nat.zero_add, Nat.add_zero, Bool.not_true, Bool.not_false, decide_true, decide_false, Bool.true_and, Bool.and_true, Bool.false_and, Bool.and_false, Bool.or_true, Bool.true_or, Bool.or_false, Bool.false_or, eq_self]
    · have e2 : ((a : Int) < ((ns.map EV.D.int).length : Int)) = False := by simp; omega
      refine fin _ _ ns a 0 m (k + 1) .no ?_ B rfl (fun a b m k B x2 => tail ns a b m k B x2)
      simp only [bagD, gs, ix0, ix1, ix2, ix3, ix4, jx1, jx2, jx3, jx4, e2, b_ok, b_bad, b_ex, f_ok, f_bad, f_ex, n_nx, n_rt, n_bk, n_ct, n_ex, n_bad, l_nx, l_rt, l_bk, l_ct, l_ex, l_bad, sNx_e, sSeq_e, sBk_e, sCt_e, sRetN_e, sExp_e, kExp_e, sRet_e, kRet_e, sIf_e, kIf_t, kIf_f, sSet_e, kSet_e, svOf_t, svOf_f, sSetC_e, kCell_e, sAsg_e, kG1_e, oF_s, oF_n, gN_e, gT_e, gsNil_e, gsCons_e, sPar_e, kPar1_e, kPar2_e, sPar3_e, kPr1_e, kPr2_e, kPr3_e, sPut_e, kPut1_e, kPut2_e, isLst_l, kPut_e, kPt_e, kPu_e, plGet_e, pG_o, pG_c, plS_e, pS_o, pS_f, plC_e, pC_o, pC_c, mFr_e, kFz_e, mVar_e, kVar_f, kVar_o, mMov_e, kMov_f, kMov_o, mBw_e, kBw_f, kBw_o, mCon_e, mOf_e, kOf_e, o2_e, m2_e, k2a_e, k2b_e, kDB_s, kDB_n, fl_e, m1_e, k1a_e, get_dv, get_bw, sv_f, sv_o, sv_n, de_cell, de_non, de_bool, de_int, de_str, de_fn, de_rol, de_lst, de_tup, de_dct, de_dtt, de_ins, mCB_e, kCB_e, getAll_n, getAll_c, g2_e, mVals_e, kVl_e, vals_n, vals_c, aNil_e, aCons_e, kC1_e, kC2_e, mT_e, kTb_e, tAnd_e, kAn_t, kAn_f, tOr_e, kOr_t, kOr_f, tNot_e, kNt_e, mTru_e, kTr_e, kO_s, dTru_b, mIf_e, kIfe_t, kIfe_f, mAnd_e, kAnd_t, kAnd_f, mOr_e, kOr2_t, kOr2_f, mNot_e, kNot2_e, kFr_o, mFn_e, kF1_e, kFn_e, mFnK_e, kK1_e, v2_e, kK2_e, mMut_e, kMu_e, mMut0_e, oM_e, kMut_e, pNone_e, pSome_e, kPs_e, mCut_e, kCt1_e, kCt2_e, oC3_e, kCt3_e, fM_e, endF_n, endF_r, dAdd_i, dAdd_s, dAdd_l, dAdd_t, dSub_i, dMul_i, dDiv_i, dMod_i, dPow_i, dLt_i, dLe_i, dGt_i, dGe_i, dLt_s, dEq_i, dEq_b, dEq_s, dNe_i, dNe_b, dNe_s, dInt_i, dAbs_i, dLen_l, dLen_r, dLen_t, dLen_s, dIx_l, dIx_r, dIx_t, dList_l, dList_r, dList_t, dTuple_l, dTuple_t, dDispL_e, dDispT_e, dIsN_n, dNotN_n, dIsN_bool, dNotN_bool, dIsN_int, dNotN_int, dIsN_str, dNotN_str, dIsN_lst, dNotN_lst, dIsN_tup, dNotN_tup, dIsi_non, dIsiT_non, dIsi_bool, dIsiT_bool, dIsi_int, dIsiT_int, dIsi_str, dIsiT_str, dIsi_lst, dIsiT_lst, dIsi_rol, dIsiT_rol, dIsi_tup, dIsiT_tup, mChain_e, kH1_e, kH2_e, kH3_t, kH3_f, kH4_e, mM1_e, kM1_e, kM2_e, kM3_e, mJs_n, mJs_c, kJ_e, dFmt_s, dNeg_i, dDivmod_e, dMax2_e, dMin2_e, dCut_l, dCut_r, dCut_t, dCut_s, dPop_e, fApp_e, List.getElem?_cons_zero, List.getElem?_cons_succ, List.set_cons_zero, List.set_cons_succ, Option.bind_some, Option.bind_none, Option.map_some, Option.map_none, List.map_cons, List.map_nil, List.length_cons, List.length_nil, List.replicate, List.cons_append, List.nil_append, List.set_set, if_true, if_false, ite_true, ite_false, reduceIte, Nat.reduceAdd, Nat.reduceSub, Nat.zero_add, Nat.add_zero, Bool.not_true, Bool.not_false, decide_true, decide_false, Bool.true_and, Bool.and_true, Bool.false_and, Bool.and_false, Bool.or_true, Bool.true_or, Bool.or_false, Bool.false_or, eq_self]
  · have e1 : (b = 0) = False := eq_false hb
    refine fin _ _ ns a b m (k + 1) .no ?_ B rfl (fun a b m k B x2 => tail ns a b m k B x2)
    simp only [bagD, gs, ix0, ix1, ix2, ix3, ix4, jx1, jx2, jx3, jx4, e1, b_ok, b_bad, b_ex, f_ok, f_bad, f_ex, n_nx, n_rt, n_bk, n_ct, n_ex, n_bad, l_nx, l_rt, l_bk, l_ct, l_ex, l_bad, sNx_e, sSeq_e, sBk_e, sCt_e, sRetN_e, sExp_e, kExp_e, sRet_e, kRet_e, sIf_e, kIf_t, kIf_f, sSet_e, kSet_e, svOf_t, svOf_f, sSetC_e, kCell_e, sAsg_e, kG1_e, oF_s, oF_n, gN_e, gT_e, gsNil_e, gsCons_e, sPar_e, kPar1_e, kPar2_e, sPar3_e, kPr1_e, kPr2_e, kPr3_e, sPut_e, kPut1_e, kPut2_e, isLst_l, kPut_e, kPt_e, kPu_e, plGet_e, pG_o, pG_c, plS_e, pS_o, pS_f, plC_e, pC_o, pC_c, mFr_e, kFz_e, mVar_e, kVar_f, kVar_o, mMov_e, kMov_f, kMov_o, mBw_e, kBw_f, kBw_o, mCon_e, mOf_e, kOf_e, o2_e, m2_e, k2a_e, k2b_e, kDB_s, kDB_n, fl_e, m1_e, k1a_e, get_dv, get_bw, sv_f, sv_o, sv_n, de_cell, de_non, de_bool, de_int, de_str, de_fn, de_rol, de_lst, de_tup, de_dct, de_dtt, de_ins, mCB_e, kCB_e, getAll_n, getAll_c, g2_e, mVals_e, kVl_e, vals_n, vals_c, aNil_e, aCons_e, kC1_e, kC2_e, mT_e, kTb_e, tAnd_e, kAn_t, kAn_f, tOr_e, kOr_t, kOr_f, tNot_e, kNt_e, mTru_e, kTr_e, kO_s, dTru_b, mIf_e, kIfe_t, kIfe_f, mAnd_e, kAnd_t, kAnd_f, mOr_e, kOr2_t, kOr2_f, mNot_e, kNot2_e, kFr_o, mFn_e, kF1_e, kFn_e, mFnK_e, kK1_e, v2_e, kK2_e, mMut_e, kMu_e, mMut0_e, oM_e, kMut_e, pNone_e, pSome_e, kPs_e, mCut_e, kCt1_e, kCt2_e, oC3_e, kCt3_e, fM_e, endF_n, endF_r, dAdd_i, dAdd_s, dAdd_l, dAdd_t, dSub_i, dMul_i, dDiv_i, dMod_i, dPow_i, dLt_i, dLe_i, dGt_i, dGe_i, dLt_s, dEq_i, dEq_b, dEq_s, dNe_i, dNe_b, dNe_s, dInt_i, dAbs_i, dLen_l, dLen_r, dLen_t, dLen_s, dIx_l, dIx_r, dIx_t, dList_l, dList_r, dList_t, dTuple_l, dTuple_t, dDispL_e, dDispT_e, dIsN_n, dNotN_n, dIsN_bool, dNotN_bool, dIsN_int, dNotN_int, dIsN_str, dNotN_str, dIsN_lst, dNotN_lst, dIsN_tup, dNotN_tup, dIsi_non, dIsiT_non, dIsi_bool, dIsiT_bool, dIsi_int, dIsiT_int, dIsi_str, dIsiT_str, dIsi_lst, dIsiT_lst, dIsi_rol, dIsiT_rol, dIsi_tup, dIsiT_tup, mChain_e, kH1_e, kH2_e, kH3_t, kH3_f, kH4_e, mM1_e, kM1_e, kM2_e, kM3_e, mJs_n, mJs_c, kJ_e, dFmt_s, dNeg_i, dDivmod_e, dMax2_e, dMin2_e, dCut_l, dCut_r, dCut_t, dCut_s, dPop_e, fApp_e, List.getElem?_cons_zero, List.getElem?_cons_succ, List.set_cons_zero, List.set_cons_succ, Option.bind_some, Option.bind_none, Option.map_some, Option.map_none, List.map_cons, List.map_nil, List.length_cons, List.length_nil, List.replicate, List.cons_append, List.nil_append, List.set_set, if_true, if_false, ite_true, ite_false, reduceIte, Nat.reduceAdd, Nat.reduceSub, Nat.zero_add, Nat.add_zero, Bool.not_true, Bool.not_false, decide_true, decide_false, Bool.true_and, Bool.and_true, Bool.false_and, Bool.and_false, Bool.or_true, Bool.true_or, Bool.or_false, Bool.false_or, eq_self]
/-- the cells: one bag in order -/
def Bg (c : CL) : Prop := ∃ ns a b m k, c = [bagD ns a b m k] ∧ BagOk ns a b m
theorem draw_bg {c : CL} {sides : Int} (B : Bg c) (hs : 0 < sides) (hs2 : sides < 2 ^ 64) : ∃ (j : Nat) (c' : CL), f__law_draw [.cell 0, .int sides] c = .ok (.int (j : Int), false) [] c' ∧ Bg c' ∧ (j : Int) < sides := by
  obtain ⟨ns, a, b, m, k, rfl, bo⟩ := B
  have hl : sides.natAbs.log2 < 9000 := by
    have : sides.natAbs < 2 ^ 9000 := by
      have : sides.natAbs < 2 ^ 64 := by omega
      exact Nat.lt_of_lt_of_le this (Nat.pow_le_pow_right (by decide) (by decide))
    have h0 : sides.natAbs ≠ 0 := by omega
    exact (Nat.log2_lt h0).mpr this
  obtain ⟨r, a', b', m', k', h1, h2, h3, h4⟩ := draw_ok (c := [bagD ns a b m k]) (i := 0) rfl bo hs hl
  refine ⟨r.toNat, [bagD ns a' b' m' k'], ?_, ⟨_, _, _, _, _, rfl, h4⟩, by omega⟩
  rw [h1]
  have : ((r.toNat : Nat) : Int) = r := by omega
  rw [this]
  rfl
/-- one of a list's things -/
theorem of_l {c : CL} {xs : List EV.D} (B : Bg c) (h0 : xs ≠ []) (hz : xs.length < 2 ^ 60) : ∃ x c', f__law_of [.cell 0, .lst xs] c = .ok (x, false) [] c' ∧ Bg c' ∧ x ∈ xs := by
  have hl : 0 < xs.length := List.length_pos_iff.mpr h0
  obtain ⟨j, c', h1, h2, h3⟩ := draw_bg B (sides := (xs.length : Int)) (by omega) (by omega)
  have hj : j < xs.length := by omega
  have e : atI xs (j : Int) = some xs[j] := atI_n (List.getElem?_eq_getElem hj)
  refine ⟨xs[j], c', ?_, h2, List.getElem_mem hj⟩
  simp only [f__law_of, m__law_of, h1, e, b_ok, b_bad, b_ex, f_ok, f_bad, f_ex, n_nx, n_rt, n_bk, n_ct, n_ex, n_bad, l_nx, l_rt, l_bk, l_ct, l_ex, l_bad, sNx_e, sSeq_e, sBk_e, sCt_e, sRetN_e, sExp_e, kExp_e, sRet_e, kRet_e, sIf_e, kIf_t, kIf_f, sSet_e, kSet_e, svOf_t, svOf_f, sSetC_e, kCell_e, sAsg_e, kG1_e, oF_s, oF_n, gN_e, gT_e, gsNil_e, gsCons_e, sPar_e, kPar1_e, kPar2_e, sPar3_e, kPr1_e, kPr2_e, kPr3_e, sPut_e, kPut1_e, kPut2_e, isLst_l, kPut_e, kPt_e, kPu_e, plGet_e, pG_o, pG_c, plS_e, pS_o, pS_f, plC_e, pC_o, pC_c, mFr_e, kFz_e, mVar_e, kVar_f, kVar_o, mMov_e, kMov_f, kMov_o, mBw_e, kBw_f, kBw_o, mCon_e, mOf_e, kOf_e, o2_e, m2_e, k2a_e, k2b_e, kDB_s, kDB_n, fl_e, m1_e, k1a_e, get_dv, get_bw, sv_f, sv_o, sv_n, de_cell, de_non, de_bool, de_int, de_str, de_fn, de_rol, de_lst, de_tup, de_dct, de_dtt, de_ins, mCB_e, kCB_e, getAll_n, getAll_c, g2_e, mVals_e, kVl_e, vals_n, vals_c, aNil_e, aCons_e, kC1_e, kC2_e, mT_e, kTb_e, tAnd_e, kAn_t, kAn_f, tOr_e, kOr_t, kOr_f, tNot_e, kNt_e, mTru_e, kTr_e, kO_s, dTru_b, mIf_e, kIfe_t, kIfe_f, mAnd_e, kAnd_t, kAnd_f, mOr_e, kOr2_t, kOr2_f, mNot_e, kNot2_e, kFr_o, mFn_e, kF1_e, kFn_e, mFnK_e, kK1_e, v2_e, kK2_e, mMut_e, kMu_e, mMut0_e, oM_e, kMut_e, pNone_e, pSome_e, kPs_e, mCut_e, kCt1_e, kCt2_e, oC3_e, kCt3_e, fM_e, endF_n, endF_r, dAdd_i, dAdd_s, dAdd_l, dAdd_t, dSub_i, dMul_i, dDiv_i, dMod_i, dPow_i, dLt_i, dLe_i, dGt_i, dGe_i, dLt_s, dEq_i, dEq_b, dEq_s, dNe_i, dNe_b, dNe_s, dInt_i, dAbs_i, dLen_l, dLen_r, dLen_t, dLen_s, dIx_l, dIx_r, dIx_t, dList_l, dList_r, dList_t, dTuple_l, dTuple_t, dDispL_e, dDispT_e, dIsN_n, dNotN_n, dIsN_bool, dNotN_bool, dIsN_int, dNotN_int, dIsN_str, dNotN_str, dIsN_lst, dNotN_lst, dIsN_tup, dNotN_tup, dIsi_non, dIsiT_non, dIsi_bool, dIsiT_bool, dIsi_int, dIsiT_int, dIsi_str, dIsiT_str, dIsi_lst, dIsiT_lst, dIsi_rol, dIsiT_rol, dIsi_tup, dIsiT_tup, mChain_e, kH1_e, kH2_e, kH3_t, kH3_f, kH4_e, mM1_e, kM1_e, kM2_e, kM3_e, mJs_n, mJs_c, kJ_e, dFmt_s, dNeg_i, dDivmod_e, dMax2_e, dMin2_e, dCut_l, dCut_r, dCut_t, dCut_s, dPop_e, fApp_e, List.getElem?_cons_zero, List.getElem?_cons_succ, List.set_cons_zero, List.set_cons_succ, Option.bind_some, Option.bind_none, Option.map_some, Option.map_none, List.map_cons, List.map_nil, List.length_cons, List.length_nil, List.replicate, List.cons_append, List.nil_append, List.set_set, if_true, if_false, ite_true, ite_false, reduceIte, Nat.reduceAdd, Nat.reduceSub, Nat.zero_add, Nat.add_zero, Bool.not_true, Bool.not_false, decide_true, decide_false, Bool.true_and, Bool.and_true, Bool.false_and, Bool.and_false, Bool.or_true, Bool.true_or, Bool.or_false, Bool.false_or, eq_self]
theorem of_s {c : CL} {x : Str} (B : Bg c) (h0 : 0 < x.length) (hz : x.length ≤ sizeLine) : ∃ k c', f__law_of [.cell 0, .str x] c = .ok (.str ⟨#[k]⟩, false) [] c' ∧ Bg c' ∧ k ∈ x.cps.toList := by
  have hL : sizeLine = 16777216 := sizeLine_eq
  obtain ⟨j, c', h1, h2, h3⟩ := draw_bg B (sides := (x.length : Int)) (by omega) (by omega)
  have hj : j < x.cps.toList.length := by
    have : x.length = x.cps.toList.length := by simp [Str.length]
    omega
  have e : atI x.cps.toList (j : Int) = some x.cps.toList[j] := atI_n (List.getElem?_eq_getElem hj)
  refine ⟨x.cps.toList[j], c', ?_, h2, List.getElem_mem hj⟩
  have hz' : (x.length ≤ sizeLine) = True := eq_true hz
  have e2 : dIx (.str x) (.int (j : Int)) = some (.str ⟨#[x.cps.toList[j]]⟩, false) := by
    show (if x.length ≤ sizeLine then (atI x.cps.toList (j : Int)).bind fun c => fl (.str ⟨#[c]⟩) else none) = _
    rw [if_pos hz, e]
    rfl
  simp only [f__law_of, m__law_of, h1, e2, hz', b_ok, b_bad, b_ex, f_ok, f_bad, f_ex, n_nx, n_rt, n_bk, n_ct, n_ex, n_bad, l_nx, l_rt, l_bk, l_ct, l_ex, l_bad, sNx_e, sSeq_e, sBk_e, sCt_e, sRetN_e, sExp_e, kExp_e, sRet_e, kRet_e, sIf_e, kIf_t, kIf_f, sSet_e, kSet_e, svOf_t, svOf_f, sSetC_e, kCell_e, sAsg_e, kG1_e, oF_s, oF_n, gN_e, gT_e, gsNil_e, gsCons_e, sPar_e, kPar1_e, kPar2_e, sPar3_e, kPr1_e, kPr2_e, kPr3_e, sPut_e, kPut1_e, kPut2_e, isLst_l, kPut_e, kPt_e, kPu_e, plGet_e, pG_o, pG_c, plS_e, pS_o, pS_f, plC_e, pC_o, pC_c, mFr_e, kFz_e, mVar_e, kVar_f, kVar_o, mMov_e, kMov_f, kMov_o, mBw_e, kBw_f, kBw_o, mCon_e, mOf_e, kOf_e, o2_e, m2_e, k2a_e, k2b_e, kDB_s, kDB_n, fl_e, m1_e, k1a_e, get_dv, get_bw, sv_f, sv_o, sv_n, de_cell, de_non, de_bool, de_int, de_str, de_fn, de_rol, de_lst, de_tup, de_dct, de_dtt, de_ins, mCB_e, kCB_e, getAll_n, getAll_c, g2_e, mVals_e, kVl_e, vals_n, vals_c, aNil_e, aCons_e, kC1_e, kC2_e, mT_e, kTb_e, tAnd_e, kAn_t, kAn_f, tOr_e, kOr_t, kOr_f, tNot_e, kNt_e, mTru_e, kTr_e, kO_s, dTru_b, mIf_e, kIfe_t, kIfe_f, mAnd_e, kAnd_t, kAnd_f, mOr_e, kOr2_t, kOr2_f, mNot_e, kNot2_e, kFr_o, mFn_e, kF1_e, kFn_e, mFnK_e, kK1_e, v2_e, kK2_e, mMut_e, kMu_e, mMut0_e, oM_e, kMut_e, pNone_e, pSome_e, kPs_e, mCut_e, kCt1_e, kCt2_e, oC3_e, kCt3_e, fM_e, endF_n, endF_r, dAdd_i, dAdd_s, dAdd_l, dAdd_t, dSub_i, dMul_i, dDiv_i, dMod_i, dPow_i, dLt_i, dLe_i, dGt_i, dGe_i, dLt_s, dEq_i, dEq_b, dEq_s, dNe_i, dNe_b, dNe_s, dInt_i, dAbs_i, dLen_l, dLen_r, dLen_t, dLen_s, dIx_l, dIx_r, dIx_t, dList_l, dList_r, dList_t, dTuple_l, dTuple_t, dDispL_e, dDispT_e, dIsN_n, dNotN_n, dIsN_bool, dNotN_bool, dIsN_int, dNotN_int, dIsN_str, dNotN_str, dIsN_lst, dNotN_lst, dIsN_tup, dNotN_tup, dIsi_non, dIsiT_non, dIsi_bool, dIsiT_bool, dIsi_int, dIsiT_int, dIsi_str, dIsiT_str, dIsi_lst, dIsiT_lst, dIsi_rol, dIsiT_rol, dIsi_tup, dIsiT_tup, mChain_e, kH1_e, kH2_e, kH3_t, kH3_f, kH4_e, mM1_e, kM1_e, kM2_e, kM3_e, mJs_n, mJs_c, kJ_e, dFmt_s, dNeg_i, dDivmod_e, dMax2_e, dMin2_e, dCut_l, dCut_r, dCut_t, dCut_s, dPop_e, fApp_e, List.getElem?_cons_zero, List.getElem?_cons_succ, List.set_cons_zero, List.set_cons_succ, Option.bind_some, Option.bind_none, Option.map_some, Option.map_none, List.map_cons, List.map_nil, List.length_cons, List.length_nil, List.replicate, List.cons_append, List.nil_append, List.set_set, if_true, if_false, ite_true, ite_false, reduceIte, Nat.reduceAdd, Nat.reduceSub, Nat.zero_add, Nat.add_zero, Bool.not_true, Bool.not_false, decide_true, decide_false, Bool.true_and, Bool.and_true, Bool.false_and, Bool.and_false, Bool.or_true, Bool.true_or, Bool.or_false, Bool.false_or, eq_self]
/-! ### the things that are judged -/
def Asc (x : Str) : Prop := x.length ≤ 100 ∧ ∀ k ∈ x.cps.toList, k < 128
inductive Th : Nat → EV.D → Prop
  | non {n} : Th n .non
  | bool {n} (b : Bool) : Th n (.bool b)
  | int {n} (i : Int) : Th n (.int i)
  | str {n} {x : Str} : Asc x → Th n (.str x)
  | lst {n} {ds : List EV.D} : ds.length ≤ 50 → (∀ d ∈ ds, Th n d) → Th (n + 1) (.lst ds)
  | tup {n} {ds : List EV.D} : ds.length ≤ 50 → (∀ d ∈ ds, Th n d) → Th (n + 1) (.tup ds)
theorem pyOfs_some : ∀ {n : Nat} (ds : List EV.D), (∀ d ∈ ds, ∃ p, pyOf d = some p ∧ PyData.canLay0 p = true ∧ p.depth ≤ n) → ∃ ps, pyOfs ds = some ps ∧ PyData.canLayAll0 ps = true ∧ PyData.depthAll ps ≤ n ∧ ps.length = ds.length
  | n, [], _ => ⟨[], rfl, rfl, Nat.zero_le _, rfl⟩
  | n, d :: ds, h => by
    obtain ⟨p, e1, e2, e3⟩ := h d (List.mem_cons_self ..)
    obtain ⟨ps, g1, g2, g3, g4⟩ := pyOfs_some ds fun x hx => h x (List.mem_cons_of_mem _ hx)
    refine ⟨p :: ps, ?_, ?_, Nat.max_le.mpr ⟨e3, g3⟩, congrArg (· + 1) g4⟩
    · unfold pyOfs
      rw [e1, g1]
    · show (PyData.canLay0 p && PyData.canLayAll0 ps) = true
      rw [e2, g2]
      rfl
theorem strOk_asc {x : Str} (h : Asc x) : PyData.strOk x = true := by
  unfold PyData.strOk
  rw [← Array.all_toList]
  rw [List.all_eq_true]
  intro k hk
  have := h.2 k hk
  exact decide_eq_true (by omega)
theorem Th.py : ∀ {n : Nat} {d : EV.D}, Th n d → ∃ p, pyOf d = some p ∧ PyData.canLay0 p = true ∧ p.depth ≤ n
  | _, _, .non => ⟨.none, rfl, rfl, Nat.zero_le _⟩
  | _, _, .bool b => ⟨.bool b, rfl, rfl, Nat.zero_le _⟩
  | _, _, .int i => ⟨.int i, rfl, rfl, Nat.zero_le _⟩
  | _, _, .str h => ⟨.str _, rfl, strOk_asc h, Nat.zero_le _⟩
  | n + 1, _, .lst _ h => by
    obtain ⟨ps, e1, e2, e3, _⟩ := pyOfs_some _ fun d hd => (h d hd).py
    exact ⟨.list ps, by unfold pyOf; rw [e1]; rfl, e2, Nat.succ_le_succ e3⟩
  | n + 1, _, .tup _ h => by
    obtain ⟨ps, e1, e2, e3, _⟩ := pyOfs_some _ fun d hd => (h d hd).py
    exact ⟨.tuple ps, by unfold pyOf; rw [e1]; rfl, e2, Nat.succ_le_succ e3⟩
/-- a list against the empty list -/
theorem eq_nil {n : Nat} {ds : List EV.D} (hn : n ≤ 60) (h : ∀ d ∈ ds, Th n d) : dEqB (.lst ds) (.lst []) = some ds.isEmpty := by
  obtain ⟨ps, e1, e2, e3, e4⟩ := pyOfs_some ds fun d hd => (h d hd).py
  show dEqv (.lst ds) (.lst []) = _
  have p1 : pyOf (.lst ds) = some (.list ps) := by unfold pyOf; rw [e1]; rfl
  have p2 : pyOf (.lst []) = some (.list []) := rfl
  unfold dEqv
  rw [p1, p2]
  have s1 : SeqAt.shaped (.list ps) = true := by
    show (PyData.canLayAll0 ps && decide (PyData.depthAll ps + 1 ≤ 64)) = true
    rw [e2, decide_eq_true (by omega)]
    rfl
  have s2 : SeqAt.shaped (.list []) = true := by decide
  show (if SeqAt.shaped (.list ps) = true ∧ SeqAt.shaped (.list []) = true then some (PyData.eqv (.list ps) (.list [])) else none) = _
  rw [if_pos ⟨s1, s2⟩]
  cases ps with
  | nil =>
    cases ds with
    | nil => rfl
    | cons _ _ => cases e4
  | cons _ _ =>
    cases ds with
    | nil => cases e4
    | cons _ _ => rfl
/-- lists of texts -/
theorem eqvAll_strs : ∀ xs ys : List Str, PyData.eqvAll (xs.map .str) (ys.map .str) = decide (xs = ys)
  | [], [] => rfl
  | [], _ :: _ => rfl
  | _ :: _, [] => rfl
  | x :: xs, y :: ys => by
    show (x == y && PyData.eqvAll (xs.map .str) (ys.map .str)) = _
    rw [eqvAll_strs xs ys]
    by_cases h1 : x = y
    · by_cases h2 : xs = ys
      · simp [h1, h2]
      · simp [h1, h2]
    · simp [h1]
theorem pyOfs_strs : ∀ xs : List Str, pyOfs (xs.map .str) = some (xs.map .str)
  | [] => rfl
  | x :: xs => by
    show (match pyOf (.str x), pyOfs (xs.map .str) with
      | some d, some ds => some (d :: ds)
      | _, _ => none) = _
    rw [pyOfs_strs xs]
    rfl
theorem shaped_strs {xs : List Str} (h : ∀ x ∈ xs, Asc x) : SeqAt.shaped (.list (xs.map .str)) = true := by
  have h1 : PyData.canLayAll0 (xs.map .str) = true ∧ PyData.depthAll (xs.map .str) = 0 := by
    induction xs with
    | nil => exact ⟨rfl, rfl⟩
    | cons x xs ih =>
      obtain ⟨i1, i2⟩ := ih fun y hy => h y (List.mem_cons_of_mem _ hy)
      refine ⟨?_, ?_⟩
      · show (PyData.strOk x && PyData.canLayAll0 (xs.map .str)) = true
        rw [i1, strOk_asc (h x (List.mem_cons_self ..))]
        rfl
      · show max 0 (PyData.depthAll (xs.map .str)) = 0
        rw [i2]
        rfl
  show (PyData.canLayAll0 (xs.map .str) && decide (PyData.depthAll (xs.map .str) + 1 ≤ 64)) = true
  rw [h1.1, h1.2]
  rfl
theorem eq_strs {xs ys : List Str} (h : ∀ x ∈ xs, Asc x) (h' : ∀ x ∈ ys, Asc x) : dEqB (.lst (xs.map .str)) (.lst (ys.map .str)) = some (decide (xs = ys)) := by
  show dEqv (.lst (xs.map .str)) (.lst (ys.map .str)) = _
  have p1 : ∀ zs : List Str, pyOf (.lst (zs.map .str)) = some (.list (zs.map .str)) := fun zs => by unfold pyOf; rw [pyOfs_strs]; rfl
  unfold dEqv
  rw [p1, p1]
  show (if SeqAt.shaped (.list (xs.map .str)) = true ∧ SeqAt.shaped (.list (ys.map .str)) = true then some (PyData.eqvAll (xs.map .str) (ys.map .str)) else none) = _
  rw [if_pos ⟨shaped_strs h, shaped_strs h'⟩, eqvAll_strs]
end KW

set_option Elab.async false
set_option linter.all false
set_option maxRecDepth 100000
namespace KW
open PySem PySem.Spec L2 EV
open PyProof.Rows hiding St
/-! ### words -/
def LET : Str := "abcdefghijklmnopqrstuvwxyz"
def isL (k : Nat) : Bool := !(Builtin.Str.occurrences LET ⟨#[k]⟩ 0 LET.length 1).isEmpty
/-- the program's is_spelled, by values -/
def spell (d : EV.D) (n : Int) : Bool := match d with
  | .str x => decide (1 ≤ (x.length : Int)) && decide ((x.length : Int) ≤ n) && x.cps.toList.all isL
  | _ => false
theorem asc_line {x : Str} (h : Asc x) : (x.length ≤ sizeLine) = True := by
  have : sizeLine = 16777216 := sizeLine_eq
  have := h.1
  exact eq_true (by omega)
theorem chrs_len {x : Str} : (chrs x).length = x.length := by unfold chrs; simp [Str.length]
theorem dBools_map : ∀ (l : List EV.D) (q : EV.D → Bool), dBools (l.map fun d => .bool (q d)) = some (l.map q)
  | [], _ => rfl
  | x :: l, q => by
    show (dBools (l.map fun d => .bool (q d))).map (q x :: ·) = _
    rw [dBools_map l q]
    rfl
theorem all_map {l : List EV.D} {q : EV.D → Bool} : dAll [.lst (l.map fun d => .bool (q d))] = some (.bool (l.all q), false) := by
  show (dBools (l.map fun d => .bool (q d))).bind (fun bs => fl (.bool (bs.all id))) = _
  rw [dBools_map]
  show some (EV.D.bool ((l.map q).all id), false) = _
  rw [List.all_map]
  rfl
def chL (d : EV.D) : Bool := match d with
  | .str ⟨cs⟩ => (match cs.toList with | [k] => isL k | _ => false)
  | _ => false
theorem chrs_all {x : Str} : (chrs x).all chL = x.cps.toList.all isL := by
  unfold chrs
  rw [List.all_map]
  rfl
theorem chrs_mem {x : Str} {d : EV.D} (h : d ∈ chrs x) : ∃ k ∈ x.cps.toList, d = .str ⟨#[k]⟩ := by
  unfold chrs at h
  obtain ⟨k, h1, h2⟩ := List.mem_map.mp h
  exact ⟨k, h1, h2.symm⟩
theorem dIn_let {k : Nat} : dIn (.str ⟨#[k]⟩) (.str "abcdefghijklmnopqrstuvwxyz") = some (.bool (isL k), false) := rfl
theorem spelled_ok {n : Nat} {d : EV.D} {most : Int} {c : CL} (h : Th n d) : f_is_spelled [d, .int most] c = .ok (.bool (spell d most), false) [] c := by
  cases h with
  | str hx =>
    rename_i x
    have z := asc_line hx
    by_cases h1 : (1 : Int) ≤ (x.length : Int)
    · by_cases h2 : (x.length : Int) ≤ most
      · have e1 : ((1 : Int) ≤ (x.length : Int)) = True := eq_true h1
        have e2 : ((x.length : Int) ≤ most) = True := eq_true h2
        have lc : mLc (iAny (mOf (mVar 0))) (gN 2) tYesM (m2 dIn (mBw 2) (mOf (mCon (.str "abcdefghijklmnopqrstuvwxyz")))) [2] [.fz (.str x), .fz (.int most), .no] c = .ok (.lst ((chrs x).map fun d => .bool (chL d)), true) [.fz (.str x), .fz (.int most), .no] c := by
          have := mLc_pure (s := [.fz (.str x), .fz (.int most), .no]) (s1 := [.fz (.str x), .fz (.int most), .no]) (c := c) (c1 := c) (mi := iAny (mOf (mVar 0))) (g := gN 2) (t := tYesM) (m := m2 dIn (mBw 2) (mOf (mCon (.str "abcdefghijklmnopqrstuvwxyz")))) (vs := [2]) (p := fun _ => true) (q := fun d => .bool (chL d)) (iAny_s (x := x) (by simp only [b_ok, b_bad, b_ex, f_ok, f_bad, f_ex, n_nx, n_rt, n_bk, n_ct, n_ex, n_bad, l_nx, l_rt, l_bk, l_ct, l_ex, l_bad, sNx_e, sSeq_e, sBk_e, sCt_e, sRetN_e, sExp_e, kExp_e, sRet_e, kRet_e, sIf_e, kIf_t, kIf_f, sSet_e, kSet_e, svOf_t, svOf_f, sSetC_e, kCell_e, sAsg_e, kG1_e, oF_s, oF_n, gN_e, gT_e, gsNil_e, gsCons_e, sPar_e, kPar1_e, kPar2_e, sPar3_e, kPr1_e, kPr2_e, kPr3_e, sPut_e, kPut1_e, kPut2_e, isLst_l, kPut_e, kPt_e, kPu_e, plGet_e, pG_o, pG_c, plS_e, pS_o, pS_f, plC_e, pC_o, pC_c, mFr_e, kFz_e, mVar_e, kVar_f, kVar_o, mMov_e, kMov_f, kMov_o, mBw_e, kBw_f, kBw_o, mCon_e, mOf_e, kOf_e, o2_e, m2_e, k2a_e, k2b_e, kDB_s, kDB_n, fl_e, m1_e, k1a_e, get_dv, get_bw, sv_f, sv_o, sv_n, de_cell, de_non, de_bool, de_int, de_str, de_fn, de_rol, de_lst, de_tup, de_dct, de_dtt, de_ins, mCB_e, kCB_e, getAll_n, getAll_c, g2_e, mVals_e, kVl_e, vals_n, vals_c, aNil_e, aCons_e, kC1_e, kC2_e, mT_e, kTb_e, tAnd_e, kAn_t, kAn_f, tOr_e, kOr_t, kOr_f, tNot_e, kNt_e, mTru_e, kTr_e, kO_s, dTru_b, mIf_e, kIfe_t, kIfe_f, mAnd_e, kAnd_t, kAnd_f, mOr_e, kOr2_t, kOr2_f, mNot_e, kNot2_e, kFr_o, mFn_e, kF1_e, kFn_e, mFnK_e, kK1_e, v2_e, kK2_e, mMut_e, kMu_e, mMut0_e, oM_e, kMut_e, pNone_e, pSome_e, kPs_e, mCut_e, kCt1_e, kCt2_e, oC3_e, kCt3_e, fM_e, endF_n, endF_r, dAdd_i, dAdd_s, dAdd_l, dAdd_t, dSub_i, dMul_i, dDiv_i, dMod_i, dPow_i, dLt_i, dLe_i, dGt_i, dGe_i, dLt_s, dEq_i, dEq_b, dEq_s, dNe_i, dNe_b, dNe_s, dInt_i, dAbs_i, dLen_l, dLen_r, dLen_t, dLen_s, dIx_l, dIx_r, dIx_t, dList_l, dList_r, dList_t, dTuple_l, dTuple_t, dDispL_e, dDispT_e, dIsN_n, dNotN_n, dIsN_bool, dNotN_bool, dIsN_int, dNotN_int, dIsN_str, dNotN_str, dIsN_lst, dNotN_lst, dIsN_tup, dNotN_tup, dIsi_non, dIsiT_non, dIsi_bool, dIsiT_bool, dIsi_int, dIsiT_int, dIsi_str, dIsiT_str, dIsi_lst, dIsiT_lst, dIsi_rol, dIsiT_rol, dIsi_tup, dIsiT_tup, mChain_e, kH1_e, kH2_e, kH3_t, kH3_f, kH4_e, mM1_e, kM1_e, kM2_e, kM3_e, mJs_n, mJs_c, kJ_e, dFmt_s, dNeg_i, dDivmod_e, dMax2_e, dMin2_e, dCut_l, dCut_r, dCut_t, dCut_s, dPop_e, fApp_e, List.getElem?_cons_zero, List.getElem?_cons_succ, List.set_cons_zero, List.set_cons_succ, Option.bind_some, Option.bind_none, Option.map_some, Option.map_none, List.map_cons, List.map_nil, List.length_cons, List.length_nil, List.replicate, List.cons_append, List.nil_append, List.set_set, if_true, if_false, ite_true, ite_false, reduceIte, Nat.reduceAdd, Nat.reduceSub, Nat.zero_add, Nat.add_zero, Bool.not_true, Bool.not_false, decide_true, decide_false, Bool.true_and, Bool.and_true, Bool.false_and, Bool.and_false, Bool.or_true, Bool.true_or, Bool.or_false, Bool.false_or, eq_self])) (by
            rw [chrs_len]
            exact of_eq_true z) fun d hd => by
            obtain ⟨k, hk, rfl⟩ := chrs_mem hd
            refine ⟨_, rfl, rfl, rfl, fun _ => ⟨false, ?_⟩⟩
            simp only [swipe, dIn_let, chL, b_ok, b_bad, b_ex, f_ok, f_bad, f_ex, n_nx, n_rt, n_bk, n_ct, n_ex, n_bad, l_nx, l_rt, l_bk, l_ct, l_ex, l_bad, sNx_e, sSeq_e, sBk_e, sCt_e, sRetN_e, sExp_e, kExp_e, sRet_e, kRet_e, sIf_e, kIf_t, kIf_f, sSet_e, kSet_e, svOf_t, svOf_f, sSetC_e, kCell_e, sAsg_e, kG1_e, oF_s, oF_n, gN_e, gT_e, gsNil_e, gsCons_e, sPar_e, kPar1_e, kPar2_e, sPar3_e, kPr1_e, kPr2_e, kPr3_e, sPut_e, kPut1_e, kPut2_e, isLst_l, kPut_e, kPt_e, kPu_e, plGet_e, pG_o, pG_c, plS_e, pS_o, pS_f, plC_e, pC_o, pC_c, mFr_e, kFz_e, mVar_e, kVar_f, kVar_o, mMov_e, kMov_f, kMov_o, mBw_e, kBw_f, kBw_o, mCon_e, mOf_e, kOf_e, o2_e, m2_e, k2a_e, k2b_e, kDB_s, kDB_n, fl_e, m1_e, k1a_e, get_dv, get_bw, sv_f, sv_o, sv_n, de_cell, de_non, de_bool, de_int, de_str, de_fn, de_rol, de_lst, de_tup, de_dct, de_dtt, de_ins, mCB_e, kCB_e, getAll_n, getAll_c, g2_e, mVals_e, kVl_e, vals_n, vals_c, aNil_e, aCons_e, kC1_e, kC2_e, mT_e, kTb_e, tAnd_e, kAn_t, kAn_f, tOr_e, kOr_t, kOr_f, tNot_e, kNt_e, mTru_e, kTr_e, kO_s, dTru_b, mIf_e, kIfe_t, kIfe_f, mAnd_e, kAnd_t, kAnd_f, mOr_e, kOr2_t, kOr2_f, mNot_e, kNot2_e, kFr_o, mFn_e, kF1_e, kFn_e, mFnK_e, kK1_e, v2_e, kK2_e, mMut_e, kMu_e, mMut0_e, oM_e, kMut_e, pNone_e, pSome_e, kPs_e, mCut_e, kCt1_e, kCt2_e, oC3_e, kCt3_e, fM_e, endF_n, endF_r, dAdd_i, dAdd_s, dAdd_l, dAdd_t, dSub_i, dMul_i, dDiv_i, dMod_i, dPow_i, dLt_i, dLe_i, dGt_i, dGe_i, dLt_s, dEq_i, dEq_b, dEq_s, dNe_i, dNe_b, dNe_s, dInt_i, dAbs_i, dLen_l, dLen_r, dLen_t, dLen_s, dIx_l, dIx_r, dIx_t, dList_l, dList_r, dList_t, dTuple_l, dTuple_t, dDispL_e, dDispT_e, dIsN_n, dNotN_n, dIsN_bool, dNotN_bool, dIsN_int, dNotN_int, dIsN_str, dNotN_str, dIsN_lst, dNotN_lst, dIsN_tup, dNotN_tup, dIsi_non, dIsiT_non, dIsi_bool, dIsiT_bool, dIsi_int, dIsiT_int, dIsi_str, dIsiT_str, dIsi_lst, dIsiT_lst, dIsi_rol, dIsiT_rol, dIsi_tup, dIsiT_tup, mChain_e, kH1_e, kH2_e, kH3_t, kH3_f, kH4_e, mM1_e, kM1_e, kM2_e, kM3_e, mJs_n, mJs_c, kJ_e, dFmt_s, dNeg_i, dDivmod_e, dMax2_e, dMin2_e, dCut_l, dCut_r, dCut_t, dCut_s, dPop_e, fApp_e, List.getElem?_cons_zero, List.getElem?_cons_succ, List.set_cons_zero, List.set_cons_succ, Option.bind_some, Option.bind_none, Option.map_some, Option.map_none, List.map_cons, List.map_nil, List.length_cons, List.length_nil, List.replicate, List.cons_append, List.nil_append, List.set_set, if_true, if_false, ite_true, ite_false, reduceIte, Nat.reduceAdd, Nat.reduceSub, Nat.zero_add, Nat.add_zero, Bool.not_true, Bool.not_false, decide_true, decide_false, Bool.true_and, Bool.and_true, Bool.false_and, Bool.and_false, Bool.or_true, Bool.true_or, Bool.or_false, Bool.false_or, eq_self]
          rw [this]
          rw [List.filter_eq_self.mpr fun _ _ => rfl]
          rfl
        have sp : spell (.str x) most = (chrs x).all chL := by
          rw [chrs_all]
          unfold spell
          simp [h1, h2]
        rw [sp]
        simp only [f_is_spelled, m_is_spelled, tyIs, z, e1, e2, lc, all_map, b_ok, b_bad, b_ex, f_ok, f_bad, f_ex, n_nx, n_rt, n_bk, n_ct, n_ex, n_bad, l_nx, l_rt, l_bk, l_ct, l_ex, l_bad, sNx_e, sSeq_e, sBk_e, sCt_e, sRetN_e, sExp_e, kExp_e, sRet_e, kRet_e, sIf_e, kIf_t, kIf_f, sSet_e, kSet_e, svOf_t, svOf_f, sSetC_e, kCell_e, sAsg_e, kG1_e, oF_s, oF_n, gN_e, gT_e, gsNil_e, gsCons_e, sPar_e, kPar1_e, kPar2_e, sPar3_e, kPr1_e, kPr2_e, kPr3_e, sPut_e, kPut1_e, kPut2_e, isLst_l, kPut_e, kPt_e, kPu_e, plGet_e, pG_o, pG_c, plS_e, pS_o, pS_f, plC_e, pC_o, pC_c, mFr_e, kFz_e, mVar_e, kVar_f, kVar_o, mMov_e, kMov_f, kMov_o, mBw_e, kBw_f, kBw_o, mCon_e, mOf_e, kOf_e, o2_e, m2_e, k2a_e, k2b_e, kDB_s, kDB_n, fl_e, m1_e, k1a_e, get_dv, get_bw, sv_f, sv_o, sv_n, de_cell, de_non, de_bool, de_int, de_str, de_fn, de_rol, de_lst, de_tup, de_dct, de_dtt, de_ins, mCB_e, kCB_e, getAll_n, getAll_c, g2_e, mVals_e, kVl_e, vals_n, vals_c, aNil_e, aCons_e, kC1_e, kC2_e, mT_e, kTb_e, tAnd_e, kAn_t, kAn_f, tOr_e, kOr_t, kOr_f, tNot_e, kNt_e, mTru_e, kTr_e, kO_s, dTru_b, mIf_e, kIfe_t, kIfe_f, mAnd_e, kAnd_t, kAnd_f, mOr_e, kOr2_t, kOr2_f, mNot_e, kNot2_e, kFr_o, mFn_e, kF1_e, kFn_e, mFnK_e, kK1_e, v2_e, kK2_e, mMut_e, kMu_e, mMut0_e, oM_e, kMut_e, pNone_e, pSome_e, kPs_e, mCut_e, kCt1_e, kCt2_e, oC3_e, kCt3_e, fM_e, endF_n, endF_r, dAdd_i, dAdd_s, dAdd_l, dAdd_t, dSub_i, dMul_i, dDiv_i, dMod_i, dPow_i, dLt_i, dLe_i, dGt_i, dGe_i, dLt_s, dEq_i, dEq_b, dEq_s, dNe_i, dNe_b, dNe_s, dInt_i, dAbs_i, dLen_l, dLen_r, dLen_t, dLen_s, dIx_l, dIx_r, dIx_t, dList_l, dList_r, dList_t, dTuple_l, dTuple_t, dDispL_e, dDispT_e, dIsN_n, dNotN_n, dIsN_bool, dNotN_bool, dIsN_int, dNotN_int, dIsN_str, dNotN_str, dIsN_lst, dNotN_lst, dIsN_tup, dNotN_tup, dIsi_non, dIsiT_non, dIsi_bool, dIsiT_bool, dIsi_int, dIsiT_int, dIsi_str, dIsiT_str, dIsi_lst, dIsiT_lst, dIsi_rol, dIsiT_rol, dIsi_tup, dIsiT_tup, mChain_e, kH1_e, kH2_e, kH3_t, kH3_f, kH4_e, mM1_e, kM1_e, kM2_e, kM3_e, mJs_n, mJs_c, kJ_e, dFmt_s, dNeg_i, dDivmod_e, dMax2_e, dMin2_e, dCut_l, dCut_r, dCut_t, dCut_s, dPop_e, fApp_e, List.getElem?_cons_zero, List.getElem?_cons_succ, List.set_cons_zero, List.set_cons_succ, Option.bind_some, Option.bind_none, Option.map_some, Option.map_none, List.map_cons, List.map_nil, List.length_cons, List.length_nil, List.replicate, List.cons_append, List.nil_append, List.set_set, if_true, if_false, ite_true, ite_false, reduceIte, Nat.reduceAdd, Nat.reduceSub, Nat.zero_add, Nat.add_zero, Bool.not_true, Bool.not_false, decide_true, decide_false, Bool.true_and, Bool.and_true, Bool.false_and, Bool.and_false, Bool.or_true, Bool.true_or, Bool.or_false, Bool.false_or, eq_self]
      · have e1 : ((1 : Int) ≤ (x.length : Int)) = True := eq_true h1
        have e2 : ((x.length : Int) ≤ most) = False := eq_false h2
        have sp : spell (.str x) most = false := by
          unfold spell
          simp [h2]
        rw [sp]
        simp only [f_is_spelled, m_is_spelled, tyIs, z, e1, e2, b_ok, b_bad, b_ex, f_ok, f_bad, f_ex, n_nx, n_rt, n_bk, n_ct, n_ex, n_bad, l_nx, l_rt, l_bk, l_ct, l_ex, l_bad, sNx_e, sSeq_e, sBk_e, sCt_e, sRetN_e, sExp_e, kExp_e, sRet_e, kRet_e, sIf_e, kIf_t, kIf_f, sSet_e, kSet_e, svOf_t, svOf_f, sSetC_e, kCell_e, sAsg_e, kG1_e, oF_s, oF_n, gN_e, gT_e, gsNil_e, gsCons_e, sPar_e, kPar1_e, kPar2_e, sPar3_e, kPr1_e, kPr2_e, kPr3_e, sPut_e, kPut1_e, kPut2_e, isLst_l, kPut_e, kPt_e, kPu_e, plGet_e, pG_o, pG_c, plS_e, pS_o, pS_f, plC_e, pC_o, pC_c, mFr_e, kFz_e, mVar_e, kVar_f, kVar_o, mMov_e, kMov_f, kMov_o, mBw_e, kBw_f, kBw_o, mCon_e, mOf_e, kOf_e, o2_e, m2_e, k2a_e, k2b_e, kDB_s, kDB_n, fl_e, m1_e, k1a_e, get_dv, get_bw, sv_f, sv_o, sv_n, de_cell, de_non, de_bool, de_int, de_str, de_fn, de_rol, de_lst, de_tup, de_dct, de_dtt, de_ins, mCB_e, kCB_e, getAll_n, getAll_c, g2_e, mVals_e, kVl_e, vals_n, vals_c, aNil_e, aCons_e, kC1_e, kC2_e, mT_e, kTb_e, tAnd_e, kAn_t, kAn_f, tOr_e, kOr_t, kOr_f, tNot_e, kNt_e, mTru_e, kTr_e, kO_s, dTru_b, mIf_e, kIfe_t, kIfe_f, mAnd_e, kAnd_t, kAnd_f, mOr_e, kOr2_t, kOr2_f, mNot_e, kNot2_e, kFr_o, mFn_e, kF1_e, kFn_e, mFnK_e, kK1_e, v2_e, kK2_e, mMut_e, kMu_e, mMut0_e, oM_e, kMut_e, pNone_e, pSome_e, kPs_e, mCut_e, kCt1_e, kCt2_e, oC3_e, kCt3_e, fM_e, endF_n, endF_r, dAdd_i, dAdd_s, dAdd_l, dAdd_t, dSub_i, dMul_i, dDiv_i, dMod_i, dPow_i, dLt_i, dLe_i, dGt_i, dGe_i, dLt_s, dEq_i, dEq_b, dEq_s, dNe_i, dNe_b, dNe_s, dInt_i, dAbs_i, dLen_l, dLen_r, dLen_t, dLen_s, dIx_l, dIx_r, dIx_t, dList_l, dList_r, dList_t, dTuple_l, dTuple_t, dDispL_e, dDispT_e, dIsN_n, dNotN_n, dIsN_bool, dNotN_bool, dIsN_int, dNotN_int, dIsN_str, dNotN_str, dIsN_lst, dNotN_lst, dIsN_tup, dNotN_tup, dIsi_non, dIsiT_non, dIsi_bool, dIsiT_bool, dIsi_int, dIsiT_int, dIsi_str, dIsiT_str, dIsi_lst, dIsiT_lst, dIsi_rol, dIsiT_rol, dIsi_tup, dIsiT_tup, mChain_e, kH1_e, kH2_e, kH3_t, kH3_f, kH4_e, mM1_e, kM1_e, kM2_e, kM3_e, mJs_n, mJs_c, kJ_e, dFmt_s, dNeg_i, dDivmod_e, dMax2_e, dMin2_e, dCut_l, dCut_r, dCut_t, dCut_s, dPop_e, fApp_e, List.getElem?_cons_zero, List.getElem?_cons_succ, List.set_cons_zero, List.set_cons_succ, Option.bind_some, Option.bind_none, Option.map_some, Option.map_none, List.map_cons, List.map_nil, List.length_cons, List.length_nil, List.replicate, List.cons_append, List.nil_append, List.set_set, if_true, if_false, ite_true, ite_false, reduceIte, Nat.reduceAdd, Nat.reduceSub, Nat.zero_add, Nat.add_zero, Bool.not_true, Bool.not_false, decide_true, decide_false, Bool.true_and, Bool.and_true, Bool.false_and, Bool.and_false, Bool.or_true, Bool.true_or, Bool.or_false, Bool.false_or, eq_self]
    · have e1 : ((1 : Int) ≤ (x.length : Int)) = False := eq_false h1
      have sp : spell (.str x) most = false := by
        show (decide (1 ≤ (x.length : Int)) && decide ((x.length : Int) ≤ most) && x.cps.toList.all isL) = false
        rw [decide_eq_false h1]
        rfl
      rw [sp]
      simp only [f_is_spelled, m_is_spelled, tyIs, z, e1, b_ok, b_bad, b_ex, f_ok, f_bad, f_ex, n_nx, n_rt, n_bk, n_ct, n_ex, n_bad, l_nx, l_rt, l_bk, l_ct, l_ex, l_bad, sNx_e, sSeq_e, sBk_e, sCt_e, sRetN_e, sExp_e, kExp_e, sRet_e, kRet_e, sIf_e, kIf_t, kIf_f, sSet_e, kSet_e, svOf_t, svOf_f, sSetC_e, kCell_e, sAsg_e, kG1_e, oF_s, oF_n, gN_e, gT_e, gsNil_e, gsCons_e, sPar_e, kPar1_e, kPar2_e, sPar3_e, kPr1_e, kPr2_e, kPr3_e, sPut_e, kPut1_e, kPut2_e, isLst_l, kPut_e, kPt_e, kPu_e, plGet_e, pG_o, pG_c, plS_e, pS_o, pS_f, plC_e, pC_o, pC_c, mFr_e, kFz_e, mVar_e, kVar_f, kVar_o, mMov_e, kMov_f, kMov_o, mBw_e, kBw_f, kBw_o, mCon_e, mOf_e, kOf_e, o2_e, m2_e, k2a_e, k2b_e, kDB_s, kDB_n, fl_e, m1_e, k1a_e, get_dv, get_bw, sv_f, sv_o, sv_n, de_cell, de_non, de_bool, de_int, de_str, de_fn, de_rol, de_lst, de_tup, de_dct, de_dtt, de_ins, mCB_e, kCB_e, getAll_n, getAll_c, g2_e, mVals_e, kVl_e, vals_n, vals_c, aNil_e, aCons_e, kC1_e, kC2_e, mT_e, kTb_e, tAnd_e, kAn_t, kAn_f, tOr_e, kOr_t, kOr_f, tNot_e, kNt_e, mTru_e, kTr_e, kO_s, dTru_b, mIf_e, kIfe_t, kIfe_f, mAnd_e, kAnd_t, kAnd_f, mOr_e, kOr2_t, kOr2_f, mNot_e, kNot2_e, kFr_o, mFn_e, kF1_e, kFn_e, mFnK_e, kK1_e, v2_e, kK2_e, mMut_e, kMu_e, mMut0_e, oM_e, kMut_e, pNone_e, pSome_e, kPs_e, mCut_e, kCt1_e, kCt2_e, oC3_e, kCt3_e, fM_e, endF_n, endF_r, dAdd_i, dAdd_s, dAdd_l, dAdd_t, dSub_i, dMul_i, dDiv_i, dMod_i, dPow_i, dLt_i, dLe_i, dGt_i, dGe_i, dLt_s, dEq_i, dEq_b, dEq_s, dNe_i, dNe_b, dNe_s, dInt_i, dAbs_i, dLen_l, dLen_r, dLen_t, dLen_s, dIx_l, dIx_r, dIx_t, dList_l, dList_r, dList_t, dTuple_l, dTuple_t, dDispL_e, dDispT_e, dIsN_n, dNotN_n, dIsN_bool, dNotN_bool, dIsN_int, dNotN_int, dIsN_str, dNotN_str, dIsN_lst, dNotN_lst, dIsN_tup, dNotN_tup, dIsi_non, dIsiT_non, dIsi_bool, dIsiT_bool, dIsi_int, dIsiT_int, dIsi_str, dIsiT_str, dIsi_lst, dIsiT_lst, dIsi_rol, dIsiT_rol, dIsi_tup, dIsiT_tup, mChain_e, kH1_e, kH2_e, kH3_t, kH3_f, kH4_e, mM1_e, kM1_e, kM2_e, kM3_e, mJs_n, mJs_c, kJ_e, dFmt_s, dNeg_i, dDivmod_e, dMax2_e, dMin2_e, dCut_l, dCut_r, dCut_t, dCut_s, dPop_e, fApp_e, List.getElem?_cons_zero, List.getElem?_cons_succ, List.set_cons_zero, List.set_cons_succ, Option.bind_some, Option.bind_none, Option.map_some, Option.map_none, List.map_cons, List.map_nil, List.length_cons, List.length_nil, List.replicate, List.cons_append, List.nil_append, List.set_set, if_true, if_false, ite_true, ite_false, reduceIte, Nat.reduceAdd, Nat.reduceSub, Nat.zero_add, Nat.add_zero, Bool.not_true, Bool.not_false, decide_true, decide_false, Bool.true_and, Bool.and_true, Bool.false_and, Bool.and_false, Bool.or_true, Bool.true_or, Bool.or_false, Bool.false_or, eq_self]
  | non => simp only [f_is_spelled, m_is_spelled, tyIs, spell, b_ok, b_bad, b_ex, f_ok, f_bad, f_ex, n_nx, n_rt, n_bk, n_ct, n_ex, n_bad, l_nx, l_rt, l_bk, l_ct, l_ex, l_bad, sNx_e, sSeq_e, sBk_e, sCt_e, sRetN_e, sExp_e, kExp_e, sRet_e, kRet_e, sIf_e, kIf_t, kIf_f, sSet_e, kSet_e, svOf_t, svOf_f, sSetC_e, kCell_e, sAsg_e, kG1_e, oF_s, oF_n, gN_e, gT_e, gsNil_e, gsCons_e, sPar_e, kPar1_e, kPar2_e, sPar3_e, kPr1_e, kPr2_e, kPr3_e, sPut_e, kPut1_e, kPut2_e, isLst_l, kPut_e, kPt_e, kPu_e, plGet_e, pG_o, pG_c, plS_e, pS_o, pS_f, plC_e, pC_o, pC_c, mFr_e, kFz_e, mVar_e, kVar_f, kVar_o, mMov_e, kMov_f, kMov_o, mBw_e, kBw_f, kBw_o, mCon_e, mOf_e, kOf_e, o2_e, m2_e, k2a_e, k2b_e, kDB_s, kDB_n, fl_e, m1_e, k1a_e, get_dv, get_bw, sv_f, sv_o, sv_n, de_cell, de_non, de_bool, de_int, de_str, de_fn, de_rol, de_lst, de_tup, de_dct, de_dtt, de_ins, mCB_e, kCB_e, getAll_n, getAll_c, g2_e, mVals_e, kVl_e, vals_n, vals_c, aNil_e, aCons_e, kC1_e, kC2_e, mT_e, kTb_e, tAnd_e, kAn_t, kAn_f, tOr_e, kOr_t, kOr_f, tNot_e, kNt_e, mTru_e, kTr_e, kO_s, dTru_b, mIf_e, kIfe_t, kIfe_f, mAnd_e, kAnd_t, kAnd_f, mOr_e, kOr2_t, kOr2_f, mNot_e, kNot2_e, kFr_o, mFn_e, kF1_e, kFn_e, mFnK_e, kK1_e, v2_e, kK2_e, mMut_e, kMu_e, mMut0_e, oM_e, kMut_e, pNone_e, pSome_e, kPs_e, mCut_e, kCt1_e, kCt2_e, oC3_e, kCt3_e, fM_e, endF_n, endF_r, dAdd_i, dAdd_s, dAdd_l, dAdd_t, dSub_i, dMul_i, dDiv_i, dMod_i, dPow_i, dLt_i, dLe_i, dGt_i, dGe_i, dLt_s, dEq_i, dEq_b, dEq_s, dNe_i, dNe_b, dNe_s, dInt_i, dAbs_i, dLen_l, dLen_r, dLen_t, dLen_s, dIx_l, dIx_r, dIx_t, dList_l, dList_r, dList_t, dTuple_l, dTuple_t, dDispL_e, dDispT_e, dIsN_n, dNotN_n, dIsN_bool, dNotN_bool, dIsN_int, dNotN_int, dIsN_str, dNotN_str, dIsN_lst, dNotN_lst, dIsN_tup, dNotN_tup, dIsi_non, dIsiT_non, dIsi_bool, dIsiT_bool, dIsi_int, dIsiT_int, dIsi_str, dIsiT_str, dIsi_lst, dIsiT_lst, dIsi_rol, dIsiT_rol, dIsi_tup, dIsiT_tup, mChain_e, kH1_e, kH2_e, kH3_t, kH3_f, kH4_e, mM1_e, kM1_e, kM2_e, kM3_e, mJs_n, mJs_c, kJ_e, dFmt_s, dNeg_i, dDivmod_e, dMax2_e, dMin2_e, dCut_l, dCut_r, dCut_t, dCut_s, dPop_e, fApp_e, List.getElem?_cons_zero, List.getElem?_cons_succ, List.set_cons_zero, List.set_cons_succ, Option.bind_some, Option.bind_none, Option.map_some, Option.map_none, List.map_cons, List.map_nil, List.length_cons, List.length_nil, List.replicate, List.cons_append, List.nil_append, List.set_set, if_true, if_false, ite_true, ite_false, reduceIte, Nat.reduceAdd, Nat.reduceSub, Nat.zero_add, Nat.add_zero, Bool.not_true, Bool.not_false, decide_true, decide_false, Bool.true_and, Bool.and_true, Bool.false_and, Bool.and_false, Bool.or_true, Bool.true_or, Bool.or_false, Bool.false_or, eq_self]
  | bool b => simp only [f_is_spelled, m_is_spelled, tyIs, spell, b_ok, b_bad, b_ex, f_ok, f_bad, f_ex, n_nx, n_rt, n_bk, n_ct, n_ex, n_bad, l_nx, l_rt, l_bk, l_ct, l_ex, l_bad, sNx_e, sSeq_e, sBk_e, sCt_e, sRetN_e, sExp_e, kExp_e, sRet_e, kRet_e, sIf_e, kIf_t, kIf_f, sSet_e, kSet_e, svOf_t, svOf_f, sSetC_e, kCell_e, sAsg_e, kG1_e, oF_s, oF_n, gN_e, gT_e, gsNil_e, gsCons_e, sPar_e, kPar1_e, kPar2_e, sPar3_e, kPr1_e, kPr2_e, kPr3_e, sPut_e, kPut1_e, kPut2_e, isLst_l, kPut_e, kPt_e, kPu_e, plGet_e, pG_o, pG_c, plS_e, pS_o, pS_f, plC_e, pC_o, pC_c, mFr_e, kFz_e, mVar_e, kVar_f, kVar_o, mMov_e, kMov_f, kMov_o, mBw_e, kBw_f, kBw_o, mCon_e, mOf_e, kOf_e, o2_e, m2_e, k2a_e, k2b_e, kDB_s, kDB_n, fl_e, m1_e, k1a_e, get_dv, get_bw, sv_f, sv_o, sv_n, de_cell, de_non, de_bool, de_int, de_str, de_fn, de_rol, de_lst, de_tup, de_dct, de_dtt, de_ins, mCB_e, kCB_e, getAll_n, getAll_c, g2_e, mVals_e, kVl_e, vals_n, vals_c, aNil_e, aCons_e, kC1_e, kC2_e, mT_e, kTb_e, tAnd_e, kAn_t, kAn_f, tOr_e, kOr_t, kOr_f, tNot_e, kNt_e, mTru_e, kTr_e, kO_s, dTru_b, mIf_e, kIfe_t, kIfe_f, mAnd_e, kAnd_t, kAnd_f, mOr_e, kOr2_t, kOr2_f, mNot_e, kNot2_e, kFr_o, mFn_e, kF1_e, kFn_e, mFnK_e, kK1_e, v2_e, kK2_e, mMut_e, kMu_e, mMut0_e, oM_e, kMut_e, pNone_e, pSome_e, kPs_e, mCut_e, kCt1_e, kCt2_e, oC3_e, kCt3_e, fM_e, endF_n, endF_r, dAdd_i, dAdd_s, dAdd_l, dAdd_t, dSub_i, dMul_i, dDiv_i, dMod_i, dPow_i, dLt_i, dLe_i, dGt_i, dGe_i, dLt_s, dEq_i, dEq_b, dEq_s, dNe_i, dNe_b, dNe_s, dInt_i, dAbs_i, dLen_l, dLen_r, dLen_t, dLen_s, dIx_l, dIx_r, dIx_t, dList_l, dList_r, dList_t, dTuple_l, dTuple_t, dDispL_e, dDispT_e, dIsN_n, dNotN_n, dIsN_bool, dNotN_bool, dIsN_int, dNotN_int, dIsN_str, dNotN_str, dIsN_lst, dNotN_lst, dIsN_tup, dNotN_tup, dIsi_non, dIsiT_non, dIsi_bool, dIsiT_bool, dIsi_int, dIsiT_int, dIsi_str, dIsiT_str, dIsi_lst, dIsiT_lst, dIsi_rol, dIsiT_rol, dIsi_tup, dIsiT_tup, mChain_e, kH1_e, kH2_e, kH3_t, kH3_f, kH4_e, mM1_e, kM1_e, kM2_e, kM3_e, mJs_n, mJs_c, kJ_e, dFmt_s, dNeg_i, dDivmod_e, dMax2_e, dMin2_e, dCut_l, dCut_r, dCut_t, dCut_s, dPop_e, fApp_e, List.getElem?_cons_zero, List.getElem?_cons_succ, List.set_cons_zero, List.set_cons_succ, Option.bind_some, Option.bind_none, Option.map_some, Option.map_none, List.map_cons, List.map_nil, List.length_cons, List.length_nil, List.replicate, List.cons_append, List.nil_append, List.set_set, if_true, if_false, ite_true, ite_false, reduceIte, Nat.reduceAdd, Nat.reduceSub, Nat.zero_add, Nat.add_zero, Bool.not_true, Bool.not_false, decide_true, decide_false, Bool.true_and, Bool.and_true, Bool.false_and, Bool.and_false, Bool.or_true, Bool.true_or, Bool.or_false, Bool.false_or, eq_self]
  | int i => simp only [f_is_spelled, m_is_spelled, tyIs, spell, b_ok, b_bad, b_ex, f_ok, f_bad, f_ex, n_nx, n_rt, n_bk, n_ct, n_ex, n_bad, l_nx, l_rt, l_bk, l_ct, l_ex, l_bad, sNx_e, sSeq_e, sBk_e, sCt_e, sRetN_e, sExp_e, kExp_e, sRet_e, kRet_e, sIf_e, kIf_t, kIf_f, sSet_e, kSet_e, svOf_t, svOf_f, sSetC_e, kCell_e, sAsg_e, kG1_e, oF_s, oF_n, gN_e, gT_e, gsNil_e, gsCons_e, sPar_e, kPar1_e, kPar2_e, sPar3_e, kPr1_e, kPr2_e, kPr3_e, sPut_e, kPut1_e, kPut2_e, isLst_l, kPut_e, kPt_e, kPu_e, plGet_e, pG_o, pG_c, plS_e, pS_o, pS_f, plC_e, pC_o, pC_c, mFr_e, kFz_e, mVar_e, kVar_f, kVar_o, mMov_e, kMov_f, kMov_o, mBw_e, kBw_f, kBw_o, mCon_e, mOf_e, kOf_e, o2_e, m2_e, k2a_e, k2b_e, kDB_s, kDB_n, fl_e, m1_e, k1a_e, get_dv, get_bw, sv_f, sv_o, sv_n, de_cell, de_non, de_bool, de_int, de_str, de_fn, de_rol, de_lst, de_tup, de_dct, de_dtt, de_ins, mCB_e, kCB_e, getAll_n, getAll_c, g2_e, mVals_e, kVl_e, vals_n, vals_c, aNil_e, aCons_e, kC1_e, kC2_e, mT_e, kTb_e, tAnd_e, kAn_t, kAn_f, tOr_e, kOr_t, kOr_f, tNot_e, kNt_e, mTru_e, kTr_e, kO_s, dTru_b, mIf_e, kIfe_t, kIfe_f, mAnd_e, kAnd_t, kAnd_f, mOr_e, kOr2_t, kOr2_f, mNot_e, kNot2_e, kFr_o, mFn_e, kF1_e, kFn_e, mFnK_e, kK1_e, v2_e, kK2_e, mMut_e, kMu_e, mMut0_e, oM_e, kMut_e, pNone_e, pSome_e, kPs_e, mCut_e, kCt1_e, kCt2_e, oC3_e, kCt3_e, fM_e, endF_n, endF_r, dAdd_i, dAdd_s, dAdd_l, dAdd_t, dSub_i, dMul_i, dDiv_i, dMod_i, dPow_i, dLt_i, dLe_i, dGt_i, dGe_i, dLt_s, dEq_i, dEq_b, dEq_s, dNe_i, dNe_b, dNe_s, dInt_i, dAbs_i, dLen_l, dLen_r, dLen_t, dLen_s, dIx_l, dIx_r, dIx_t, dList_l, dList_r, dList_t, dTuple_l, dTuple_t, dDispL_e, dDispT_e, dIsN_n, dNotN_n, dIsN_bool, dNotN_bool, dIsN_int, dNotN_int, dIsN_str, dNotN_str, dIsN_lst, dNotN_lst, dIsN_tup, dNotN_tup, dIsi_non, dIsiT_non, dIsi_bool, dIsiT_bool, dIsi_int, dIsiT_int, dIsi_str, dIsiT_str, dIsi_lst, dIsiT_lst, dIsi_rol, dIsiT_rol, dIsi_tup, dIsiT_tup, mChain_e, kH1_e, kH2_e, kH3_t, kH3_f, kH4_e, mM1_e, kM1_e, kM2_e, kM3_e, mJs_n, mJs_c, kJ_e, dFmt_s, dNeg_i, dDivmod_e, dMax2_e, dMin2_e, dCut_l, dCut_r, dCut_t, dCut_s, dPop_e, fApp_e, List.getElem?_cons_zero, List.getElem?_cons_succ, List.set_cons_zero, List.set_cons_succ, Option.bind_some, Option.bind_none, Option.map_some, Option.map_none, List.map_cons, List.map_nil, List.length_cons, List.length_nil, List.replicate, List.cons_append, List.nil_append, List.set_set, if_true, if_false, ite_true, ite_false, reduceIte, Nat.reduceAdd, Nat.reduceSub, Nat.zero_add, Nat.add_zero, Bool.not_true, Bool.not_false, decide_true, decide_false, Bool.true_and, Bool.and_true, Bool.false_and, Bool.and_false, Bool.or_true, Bool.true_or, Bool.or_false, Bool.false_or, eq_self]
  | lst h1 h2 => simp only [f_is_spelled, m_is_spelled, tyIs, spell, b_ok, b_bad, b_ex, f_ok, f_bad, f_ex, n_nx, n_rt, n_bk, n_ct, n_ex, n_bad, l_nx, l_rt, l_bk, l_ct, l_ex, l_bad, sNx_e, sSeq_e, sBk_e, sCt_e, sRetN_e, sExp_e, kExp_e, sRet_e, kRet_e, sIf_e, kIf_t, kIf_f, sSet_e, kSet_e, svOf_t, svOf_f, sSetC_e, kCell_e, sAsg_e, kG1_e, oF_s, oF_n, gN_e, gT_e, gsNil_e, gsCons_e, sPar_e, kPar1_e, kPar2_e, sPar3_e, kPr1_e, kPr2_e, kPr3_e, sPut_e, kPut1_e, kPut2_e, isLst_l, kPut_e, kPt_e, kPu_e, plGet_e, pG_o, pG_c, plS_e, pS_o, pS_f, plC_e, pC_o, pC_c, mFr_e, kFz_e, mVar_e, kVar_f, kVar_o, mMov_e, kMov_f, kMov_o, mBw_e, kBw_f, kBw_o, mCon_e, mOf_e, kOf_e, o2_e, m2_e, k2a_e, k2b_e, kDB_s, kDB_n, fl_e, m1_e, k1a_e, get_dv, get_bw, sv_f, sv_o, sv_n, de_cell, de_non, de_bool, de_int, de_str, de_fn, de_rol, de_lst, de_tup, de_dct, de_dtt, de_ins, mCB_e, kCB_e, getAll_n, getAll_c, g2_e, mVals_e, kVl_e, vals_n, vals_c, aNil_e, aCons_e, kC1_e, kC2_e, mT_e, kTb_e, tAnd_e, kAn_t, kAn_f, tOr_e, kOr_t, kOr_f, tNot_e, kNt_e, mTru_e, kTr_e, kO_s, dTru_b, mIf_e, kIfe_t, kIfe_f, mAnd_e, kAnd_t, kAnd_f, mOr_e, kOr2_t, kOr2_f, mNot_e, kNot2_e, kFr_o, mFn_e, kF1_e, kFn_e, mFnK_e, kK1_e, v2_e, kK2_e, mMut_e, kMu_e, mMut0_e, oM_e, kMut_e, pNone_e, pSome_e, kPs_e, mCut_e, kCt1_e, kCt2_e, oC3_e, kCt3_e, fM_e, endF_n, endF_r, dAdd_i, dAdd_s, dAdd_l, dAdd_t, dSub_i, dMul_i, dDiv_i, dMod_i, dPow_i, dLt_i, dLe_i, dGt_i, dGe_i, dLt_s, dEq_i, dEq_b, dEq_s, dNe_i, dNe_b, dNe_s, dInt_i, dAbs_i, dLen_l, dLen_r, dLen_t, dLen_s, dIx_l, dIx_r, dIx_t, dList_l, dList_r, dList_t, dTuple_l, dTuple_t, dDispL_e, dDispT_e, dIsN_n, dNotN_n, dIsN_bool, dNotN_bool, dIsN_int, dNotN_int, dIsN_str, dNotN_str, dIsN_lst, dNotN_lst, dIsN_tup, dNotN_tup, dIsi_non, dIsiT_non, dIsi_bool, dIsiT_bool, dIsi_int, dIsiT_int, dIsi_str, dIsiT_str, dIsi_lst, dIsiT_lst, dIsi_rol, dIsiT_rol, dIsi_tup, dIsiT_tup, mChain_e, kH1_e, kH2_e, kH3_t, kH3_f, kH4_e, mM1_e, kM1_e, kM2_e, kM3_e, mJs_n, mJs_c, kJ_e, dFmt_s, dNeg_i, dDivmod_e, dMax2_e, dMin2_e, dCut_l, dCut_r, dCut_t, dCut_s, dPop_e, fApp_e, List.getElem?_cons_zero, List.getElem?_cons_succ, List.set_cons_zero, List.set_cons_succ, Option.bind_some, Option.bind_none, Option.map_some, Option.map_none, List.map_cons, List.map_nil, List.length_cons, List.length_nil, List.replicate, List.cons_append, List.nil_append, List.set_set, if_true, if_false, ite_true, ite_false, reduceIte, Nat.reduceAdd, Nat.reduceSub, Nat.zero_add, Nat.add_zero, Bool.not_true, Bool.not_false, decide_true, decide_false, Bool.true_and, Bool.and_true, Bool.false_and, Bool.and_false, Bool.or_true, Bool.true_or, Bool.or_false, Bool.false_or, eq_self]
  | tup h1 h2 => simp only [f_is_spelled, m_is_spelled, tyIs, spell, b_ok, b_bad, b_ex, f_ok, f_bad, f_ex, n_nx, n_rt, n_bk, n_ct, n_ex, n_bad, l_nx, l_rt, l_bk, l_ct, l_ex, l_bad, sNx_e, sSeq_e, sBk_e, sCt_e, sRetN_e, sExp_e, kExp_e, sRet_e, kRet_e, sIf_e, kIf_t, kIf_f, sSet_e, kSet_e, svOf_t, svOf_f, sSetC_e, kCell_e, sAsg_e, kG1_e, oF_s, oF_n, gN_e, gT_e, gsNil_e, gsCons_e, sPar_e, kPar1_e, kPar2_e, sPar3_e, kPr1_e, kPr2_e, kPr3_e, sPut_e, kPut1_e, kPut2_e, isLst_l, kPut_e, kPt_e, kPu_e, plGet_e, pG_o, pG_c, plS_e, pS_o, pS_f, plC_e, pC_o, pC_c, mFr_e, kFz_e, mVar_e, kVar_f, kVar_o, mMov_e, kMov_f, kMov_o, mBw_e, kBw_f, kBw_o, mCon_e, mOf_e, kOf_e, o2_e, m2_e, k2a_e, k2b_e, kDB_s, kDB_n, fl_e, m1_e, k1a_e, get_dv, get_bw, sv_f, sv_o, sv_n, de_cell, de_non, de_bool, de_int, de_str, de_fn, de_rol, de_lst, de_tup, de_dct, de_dtt, de_ins, mCB_e, kCB_e, getAll_n, getAll_c, g2_e, mVals_e, kVl_e, vals_n, vals_c, aNil_e, aCons_e, kC1_e, kC2_e, mT_e, kTb_e, tAnd_e, kAn_t, kAn_f, tOr_e, kOr_t, kOr_f, tNot_e, kNt_e, mTru_e, kTr_e, kO_s, dTru_b, mIf_e, kIfe_t, kIfe_f, mAnd_e, kAnd_t, kAnd_f, mOr_e, kOr2_t, kOr2_f, mNot_e, kNot2_e, kFr_o, mFn_e, kF1_e, kFn_e, mFnK_e, kK1_e, v2_e, kK2_e, mMut_e, kMu_e, mMut0_e, oM_e, kMut_e, pNone_e, pSome_e, kPs_e, mCut_e, kCt1_e, kCt2_e, oC3_e, kCt3_e, fM_e, endF_n, endF_r, dAdd_i, dAdd_s, dAdd_l, dAdd_t, dSub_i, dMul_i, dDiv_i, dMod_i, dPow_i, dLt_i, dLe_i, dGt_i, dGe_i, dLt_s, dEq_i, dEq_b, dEq_s, dNe_i, dNe_b, dNe_s, dInt_i, dAbs_i, dLen_l, dLen_r, dLen_t, dLen_s, dIx_l, dIx_r, dIx_t, dList_l, dList_r, dList_t, dTuple_l, dTuple_t, dDispL_e, dDispT_e, dIsN_n, dNotN_n, dIsN_bool, dNotN_bool, dIsN_int, dNotN_int, dIsN_str, dNotN_str, dIsN_lst, dNotN_lst, dIsN_tup, dNotN_tup, dIsi_non, dIsiT_non, dIsi_bool, dIsiT_bool, dIsi_int, dIsiT_int, dIsi_str, dIsiT_str, dIsi_lst, dIsiT_lst, dIsi_rol, dIsiT_rol, dIsi_tup, dIsiT_tup, mChain_e, kH1_e, kH2_e, kH3_t, kH3_f, kH4_e, mM1_e, kM1_e, kM2_e, kM3_e, mJs_n, mJs_c, kJ_e, dFmt_s, dNeg_i, dDivmod_e, dMax2_e, dMin2_e, dCut_l, dCut_r, dCut_t, dCut_s, dPop_e, fApp_e, List.getElem?_cons_zero, List.getElem?_cons_succ, List.set_cons_zero, List.set_cons_succ, Option.bind_some, Option.bind_none, Option.map_some, Option.map_none, List.map_cons, List.map_nil, List.length_cons, List.length_nil, List.replicate, List.cons_append, List.nil_append, List.set_set, if_true, if_false, ite_true, ite_false, reduceIte, Nat.reduceAdd, Nat.reduceSub, Nat.zero_add, Nat.add_zero, Bool.not_true, Bool.not_false, decide_true, decide_false, Bool.true_and, Bool.and_true, Bool.false_and, Bool.and_false, Bool.or_true, Bool.true_or, Bool.or_false, Bool.false_or, eq_self]
end KW

set_option Elab.async false
set_option linter.all false
set_option maxRecDepth 100000
namespace KW
open PySem PySem.Spec L2 EV
open PyProof.Rows hiding St
theorem name_ok {n : Nat} {d : EV.D} {c : CL} (h : Th n d) : f_is_name [d] c = .ok (.bool (spell d 6), false) [] c := by
  have := spelled_ok (most := 6) (c := c) h
  simp only [f_is_name, m_is_name, this, b_ok, b_bad, b_ex, f_ok, f_bad, f_ex, n_nx, n_rt, n_bk, n_ct, n_ex, n_bad, l_nx, l_rt, l_bk, l_ct, l_ex, l_bad, sNx_e, sSeq_e, sBk_e, sCt_e, sRetN_e, sExp_e, kExp_e, sRet_e, kRet_e, sIf_e, kIf_t, kIf_f, sSet_e, kSet_e, svOf_t, svOf_f, sSetC_e, kCell_e, sAsg_e, kG1_e, oF_s, oF_n, gN_e, gT_e, gsNil_e, gsCons_e, sPar_e, kPar1_e, kPar2_e, sPar3_e, kPr1_e, kPr2_e, kPr3_e, sPut_e, kPut1_e, kPut2_e, isLst_l, kPut_e, kPt_e, kPu_e, plGet_e, pG_o, pG_c, plS_e, pS_o, pS_f, plC_e, pC_o, pC_c, mFr_e, kFz_e, mVar_e, kVar_f, kVar_o, mMov_e, kMov_f, kMov_o, mBw_e, kBw_f, kBw_o, mCon_e, mOf_e, kOf_e, o2_e, m2_e, k2a_e, k2b_e, kDB_s, kDB_n, fl_e, m1_e, k1a_e, get_dv, get_bw, sv_f, sv_o, sv_n, de_cell, de_non, de_bool, de_int, de_str, de_fn, de_rol, de_lst, de_tup, de_dct, de_dtt, de_ins, mCB_e, kCB_e, getAll_n, getAll_c, g2_e, mVals_e, kVl_e, vals_n, vals_c, aNil_e, aCons_e, kC1_e, kC2_e, mT_e, kTb_e, tAnd_e, kAn_t, kAn_f, tOr_e, kOr_t, kOr_f, tNot_e, kNt_e, mTru_e, kTr_e, kO_s, dTru_b, mIf_e, kIfe_t, kIfe_f, mAnd_e, kAnd_t, kAnd_f, mOr_e, kOr2_t, kOr2_f, mNot_e, kNot2_e, kFr_o, mFn_e, kF1_e, kFn_e, mFnK_e, kK1_e, v2_e, kK2_e, mMut_e, kMu_e, mMut0_e, oM_e, kMut_e, pNone_e, pSome_e, kPs_e, mCut_e, kCt1_e, kCt2_e, oC3_e, kCt3_e, fM_e, endF_n, endF_r, dAdd_i, dAdd_s, dAdd_l, dAdd_t, dSub_i, dMul_i, dDiv_i, dMod_i, dPow_i, dLt_i, dLe_i, dGt_i, dGe_i, dLt_s, dEq_i, dEq_b, dEq_s, dNe_i, dNe_b, dNe_s, dInt_i, dAbs_i, dLen_l, dLen_r, dLen_t, dLen_s, dIx_l, dIx_r, dIx_t, dList_l, dList_r, dList_t, dTuple_l, dTuple_t, dDispL_e, dDispT_e, dIsN_n, dNotN_n, dIsN_bool, dNotN_bool, dIsN_int, dNotN_int, dIsN_str, dNotN_str, dIsN_lst, dNotN_lst, dIsN_tup, dNotN_tup, dIsi_non, dIsiT_non, dIsi_bool, dIsiT_bool, dIsi_int, dIsiT_int, dIsi_str, dIsiT_str, dIsi_lst, dIsiT_lst, dIsi_rol, dIsiT_rol, dIsi_tup, dIsiT_tup, mChain_e, kH1_e, kH2_e, kH3_t, kH3_f, kH4_e, mM1_e, kM1_e, kM2_e, kM3_e, mJs_n, mJs_c, kJ_e, dFmt_s, dNeg_i, dDivmod_e, dMax2_e, dMin2_e, dCut_l, dCut_r, dCut_t, dCut_s, dPop_e, fApp_e, List.getElem?_cons_zero, List.getElem?_cons_succ, List.set_cons_zero, List.set_cons_succ, Option.bind_some, Option.bind_none, Option.map_some, Option.map_none, List.map_cons, List.map_nil, List.length_cons, List.length_nil, List.replicate, List.cons_append, List.nil_append, List.set_set, if_true, if_false, ite_true, ite_false, reduceIte, Nat.reduceAdd, Nat.reduceSub, Nat.zero_add, Nat.add_zero, Bool.not_true, Bool.not_false, decide_true, decide_false, Bool.true_and, Bool.and_true, Bool.false_and, Bool.and_false, Bool.or_true, Bool.true_or, Bool.or_false, Bool.false_or, eq_self]
theorem long_ok {n : Nat} {d : EV.D} {c : CL} (h : Th n d) : f_is_long_word [d] c = .ok (.bool (spell d 12), false) [] c := by
  have := spelled_ok (most := 12) (c := c) h
  simp only [f_is_long_word, m_is_long_word, this, b_ok, b_bad, b_ex, f_ok, f_bad, f_ex, n_nx, n_rt, n_bk, n_ct, n_ex, n_bad, l_nx, l_rt, l_bk, l_ct, l_ex, l_bad, sNx_e, sSeq_e, sBk_e, sCt_e, sRetN_e, sExp_e, kExp_e, sRet_e, kRet_e, sIf_e, kIf_t, kIf_f, sSet_e, kSet_e, svOf_t, svOf_f, sSetC_e, kCell_e, sAsg_e, kG1_e, oF_s, oF_n, gN_e, gT_e, gsNil_e, gsCons_e, sPar_e, kPar1_e, kPar2_e, sPar3_e, kPr1_e, kPr2_e, kPr3_e, sPut_e, kPut1_e, kPut2_e, isLst_l, kPut_e, kPt_e, kPu_e, plGet_e, pG_o, pG_c, plS_e, pS_o, pS_f, plC_e, pC_o, pC_c, mFr_e, kFz_e, mVar_e, kVar_f, kVar_o, mMov_e, kMov_f, kMov_o, mBw_e, kBw_f, kBw_o, mCon_e, mOf_e, kOf_e, o2_e, m2_e, k2a_e, k2b_e, kDB_s, kDB_n, fl_e, m1_e, k1a_e, get_dv, get_bw, sv_f, sv_o, sv_n, de_cell, de_non, de_bool, de_int, de_str, de_fn, de_rol, de_lst, de_tup, de_dct, de_dtt, de_ins, mCB_e, kCB_e, getAll_n, getAll_c, g2_e, mVals_e, kVl_e, vals_n, vals_c, aNil_e, aCons_e, kC1_e, kC2_e, mT_e, kTb_e, tAnd_e, kAn_t, kAn_f, tOr_e, kOr_t, kOr_f, tNot_e, kNt_e, mTru_e, kTr_e, kO_s, dTru_b, mIf_e, kIfe_t, kIfe_f, mAnd_e, kAnd_t, kAnd_f, mOr_e, kOr2_t, kOr2_f, mNot_e, kNot2_e, kFr_o, mFn_e, kF1_e, kFn_e, mFnK_e, kK1_e, v2_e, kK2_e, mMut_e, kMu_e, mMut0_e, oM_e, kMut_e, pNone_e, pSome_e, kPs_e, mCut_e, kCt1_e, kCt2_e, oC3_e, kCt3_e, fM_e, endF_n, endF_r, dAdd_i, dAdd_s, dAdd_l, dAdd_t, dSub_i, dMul_i, dDiv_i, dMod_i, dPow_i, dLt_i, dLe_i, dGt_i, dGe_i, dLt_s, dEq_i, dEq_b, dEq_s, dNe_i, dNe_b, dNe_s, dInt_i, dAbs_i, dLen_l, dLen_r, dLen_t, dLen_s, dIx_l, dIx_r, dIx_t, dList_l, dList_r, dList_t, dTuple_l, dTuple_t, dDispL_e, dDispT_e, dIsN_n, dNotN_n, dIsN_bool, dNotN_bool, dIsN_int, dNotN_int, dIsN_str, dNotN_str, dIsN_lst, dNotN_lst, dIsN_tup, dNotN_tup, dIsi_non, dIsiT_non, dIsi_bool, dIsiT_bool, dIsi_int, dIsiT_int, dIsi_str, dIsiT_str, dIsi_lst, dIsiT_lst, dIsi_rol, dIsiT_rol, dIsi_tup, dIsiT_tup, mChain_e, kH1_e, kH2_e, kH3_t, kH3_f, kH4_e, mM1_e, kM1_e, kM2_e, kM3_e, mJs_n, mJs_c, kJ_e, dFmt_s, dNeg_i, dDivmod_e, dMax2_e, dMin2_e, dCut_l, dCut_r, dCut_t, dCut_s, dPop_e, fApp_e, List.getElem?_cons_zero, List.getElem?_cons_succ, List.set_cons_zero, List.set_cons_succ, Option.bind_some, Option.bind_none, Option.map_some, Option.map_none, List.map_cons, List.map_nil, List.length_cons, List.length_nil, List.replicate, List.cons_append, List.nil_append, List.set_set, if_true, if_false, ite_true, ite_false, reduceIte, Nat.reduceAdd, Nat.reduceSub, Nat.zero_add, Nat.add_zero, Bool.not_true, Bool.not_false, decide_true, decide_false, Bool.true_and, Bool.and_true, Bool.false_and, Bool.and_false, Bool.or_true, Bool.true_or, Bool.or_false, Bool.false_or, eq_self]
theorem dEq_of {x y : EV.D} {b : Bool} (h : dEqB x y = some b) : dEq x y = some (.bool b, false) := by unfold dEq; rw [h]; rfl
theorem dNe_of {x y : EV.D} {b : Bool} (h : dEqB x y = some b) : dNe x y = some (.bool !b, false) := by unfold dNe; rw [h]; rfl
theorem isEmpty_filter {α : Type} {l : List α} {p : α → Bool} : (l.filter fun x => !p x).isEmpty = l.all p := by
  induction l with
  | nil => rfl
  | cons x l ih =>
    cases h : p x with
    | true =>
      rw [List.filter_cons_of_neg (by simp [h]), ih, List.all_cons, h]
      rfl
    | false =>
      rw [List.filter_cons_of_pos (by simp [h]), List.all_cons, h]
      rfl
theorem asc1 {x : Str} (h : Asc x) {k : Nat} (hk : k ∈ x.cps.toList) : Asc ⟨#[k]⟩ := ⟨by show (1 : Nat) ≤ 100; decide, fun j hj => by
  have : j = k := by simpa using hj
  rw [this]
  exact h.2 k hk⟩
theorem dNotIn_let {k : Nat} : dNotIn (.str ⟨#[k]⟩) (.str "abcdefghijklmnopqrstuvwxyz") = some (.bool (!isL k), false) := rfl
/-- the law's letters -/
theorem letters_ok {n : Nat} {d : EV.D} {most : Int} {c : CL} (h : Th n d) : f__law_letters [d, .int most] c = .ok (.bool (spell d most), false) [] c := by
  cases h with
  | str hx =>
    rename_i x
    have z := asc_line hx
    by_cases h1 : (x.length : Int) < 1
    · have e1 : ((x.length : Int) < 1) = True := eq_true h1
      have sp : spell (.str x) most = false := by
        show (decide (1 ≤ (x.length : Int)) && decide ((x.length : Int) ≤ most) && x.cps.toList.all isL) = false
        rw [decide_eq_false (by omega)]
        rfl
      rw [sp]
      simp only [f__law_letters, m__law_letters, tyIs, z, e1, b_ok, b_bad, b_ex, f_ok, f_bad, f_ex, n_nx, n_rt, n_bk, n_ct, n_ex, n_bad, l_nx, l_rt, l_bk, l_ct, l_ex, l_bad, sNx_e, sSeq_e, sBk_e, sCt_e, sRetN_e, sExp_e, kExp_e, sRet_e, kRet_e, sIf_e, kIf_t, kIf_f, sSet_e, kSet_e, svOf_t, svOf_f, sSetC_e, kCell_e, sAsg_e, kG1_e, oF_s, oF_n, gN_e, gT_e, gsNil_e, gsCons_e, sPar_e, kPar1_e, kPar2_e, sPar3_e, kPr1_e, kPr2_e, kPr3_e, sPut_e, kPut1_e, kPut2_e, isLst_l, kPut_e, kPt_e, kPu_e, plGet_e, pG_o, pG_c, plS_e, pS_o, pS_f, plC_e, pC_o, pC_c, mFr_e, kFz_e, mVar_e, kVar_f, kVar_o, mMov_e, kMov_f, kMov_o, mBw_e, kBw_f, kBw_o, mCon_e, mOf_e, kOf_e, o2_e, m2_e, k2a_e, k2b_e, kDB_s, kDB_n, fl_e, m1_e, k1a_e, get_dv, get_bw, sv_f, sv_o, sv_n, de_cell, de_non, de_bool, de_int, de_str, de_fn, de_rol, de_lst, de_tup, de_dct, de_dtt, de_ins, mCB_e, kCB_e, getAll_n, getAll_c, g2_e, mVals_e, kVl_e, vals_n, vals_c, aNil_e, aCons_e, kC1_e, kC2_e, mT_e, kTb_e, tAnd_e, kAn_t, kAn_f, tOr_e, kOr_t, kOr_f, tNot_e, kNt_e, mTru_e, kTr_e, kO_s, dTru_b, mIf_e, kIfe_t, kIfe_f, mAnd_e, kAnd_t, kAnd_f, mOr_e, kOr2_t, kOr2_f, mNot_e, kNot2_e, kFr_o, mFn_e, kF1_e, kFn_e, mFnK_e, kK1_e, v2_e, kK2_e, mMut_e, kMu_e, mMut0_e, oM_e, kMut_e, pNone_e, pSome_e, kPs_e, mCut_e, kCt1_e, kCt2_e, oC3_e, kCt3_e, fM_e, endF_n, endF_r, dAdd_i, dAdd_s, dAdd_l, dAdd_t, dSub_i, dMul_i, dDiv_i, dMod_i, dPow_i, dLt_i, dLe_i, dGt_i, dGe_i, dLt_s, dEq_i, dEq_b, dEq_s, dNe_i, dNe_b, dNe_s, dInt_i, dAbs_i, dLen_l, dLen_r, dLen_t, dLen_s, dIx_l, dIx_r, dIx_t, dList_l, dList_r, dList_t, dTuple_l, dTuple_t, dDispL_e, dDispT_e, dIsN_n, dNotN_n, dIsN_bool, dNotN_bool, dIsN_int, dNotN_int, dIsN_str, dNotN_str, dIsN_lst, dNotN_lst, dIsN_tup, dNotN_tup, dIsi_non, dIsiT_non, dIsi_bool, dIsiT_bool, dIsi_int, dIsiT_int, dIsi_str, dIsiT_str, dIsi_lst, dIsiT_lst, dIsi_rol, dIsiT_rol, dIsi_tup, dIsiT_tup, mChain_e, kH1_e, kH2_e, kH3_t, kH3_f, kH4_e, mM1_e, kM1_e, kM2_e, kM3_e, mJs_n, mJs_c, kJ_e, dFmt_s, dNeg_i, dDivmod_e, dMax2_e, dMin2_e, dCut_l, dCut_r, dCut_t, dCut_s, dPop_e, fApp_e, List.getElem?_cons_zero, List.getElem?_cons_succ, List.set_cons_zero, List.set_cons_succ, Option.bind_some, Option.bind_none, Option.map_some, Option.map_none, List.map_cons, List.map_nil, List.length_cons, List.length_nil, List.replicate, List.cons_append, List.nil_append, List.set_set, if_true, if_false, ite_true, ite_false, reduceIte, Nat.reduceAdd, Nat.reduceSub, Nat.zero_add, Nat.add_zero, Bool.not_true, Bool.not_false, decide_true, decide_false, Bool.true_and, Bool.and_true, Bool.false_and, Bool.and_false, Bool.or_true, Bool.true_or, Bool.or_false, Bool.false_or, eq_self]
    · have e1 : ((x.length : Int) < 1) = False := eq_false h1
      by_cases h2 : most < (x.length : Int)
      · have e2 : (most < (x.length : Int)) = True := eq_true h2
        have sp : spell (.str x) most = false := by
          show (decide (1 ≤ (x.length : Int)) && decide ((x.length : Int) ≤ most) && x.cps.toList.all isL) = false
          rw [decide_eq_false (show ¬ (x.length : Int) ≤ most by omega), Bool.and_false]
          rfl
        rw [sp]
        simp only [f__law_letters, m__law_letters, tyIs, z, e1, e2, b_ok, b_bad, b_ex, f_ok, f_bad, f_ex, n_nx, n_rt, n_bk, n_ct, n_ex, n_bad, l_nx, l_rt, l_bk, l_ct, l_ex, l_bad, sNx_e, sSeq_e, sBk_e, sCt_e, sRetN_e, sExp_e, kExp_e, sRet_e, kRet_e, sIf_e, kIf_t, kIf_f, sSet_e, kSet_e, svOf_t, svOf_f, sSetC_e, kCell_e, sAsg_e, kG1_e, oF_s, oF_n, gN_e, gT_e, gsNil_e, gsCons_e, sPar_e, kPar1_e, kPar2_e, sPar3_e, kPr1_e, kPr2_e, kPr3_e, sPut_e, kPut1_e, kPut2_e, isLst_l, kPut_e, kPt_e, kPu_e, plGet_e, pG_o, pG_c, plS_e, pS_o, pS_f, plC_e, pC_o, pC_c, mFr_e, kFz_e, mVar_e, kVar_f, kVar_o, mMov_e, kMov_f, kMov_o, mBw_e, kBw_f, kBw_o, mCon_e, mOf_e, kOf_e, o2_e, m2_e, k2a_e, k2b_e, kDB_s, kDB_n, fl_e, m1_e, k1a_e, get_dv, get_bw, sv_f, sv_o, sv_n, de_cell, de_non, de_bool, de_int, de_str, de_fn, de_rol, de_lst, de_tup, de_dct, de_dtt, de_ins, mCB_e, kCB_e, getAll_n, getAll_c, g2_e, mVals_e, kVl_e, vals_n, vals_c, aNil_e, aCons_e, kC1_e, kC2_e, mT_e, kTb_e, tAnd_e, kAn_t, kAn_f, tOr_e, kOr_t, kOr_f, tNot_e, kNt_e, mTru_e, kTr_e, kO_s, dTru_b, mIf_e, kIfe_t, kIfe_f, mAnd_e, kAnd_t, kAnd_f, mOr_e, kOr2_t, kOr2_f, mNot_e, kNot2_e, kFr_o, mFn_e, kF1_e, kFn_e, mFnK_e, kK1_e, v2_e, kK2_e, mMut_e, kMu_e, mMut0_e, oM_e, kMut_e, pNone_e, pSome_e, kPs_e, mCut_e, kCt1_e, kCt2_e, oC3_e, kCt3_e, fM_e, endF_n, endF_r, dAdd_i, dAdd_s, dAdd_l, dAdd_t, dSub_i, dMul_i, dDiv_i, dMod_i, dPow_i, dLt_i, dLe_i, dGt_i, dGe_i, dLt_s, dEq_i, dEq_b, dEq_s, dNe_i, dNe_b, dNe_s, dInt_i, dAbs_i, dLen_l, dLen_r, dLen_t, dLen_s, dIx_l, dIx_r, dIx_t, dList_l, dList_r, dList_t, dTuple_l, dTuple_t, dDispL_e, dDispT_e, dIsN_n, dNotN_n, dIsN_bool, dNotN_bool, dIsN_int, dNotN_int, dIsN_str, dNotN_str, dIsN_lst, dNotN_lst, dIsN_tup, dNotN_tup, dIsi_non, dIsiT_non, dIsi_bool, dIsiT_bool, dIsi_int, dIsiT_int, dIsi_str, dIsiT_str, dIsi_lst, dIsiT_lst, dIsi_rol, dIsiT_rol, dIsi_tup, dIsiT_tup, mChain_e, kH1_e, kH2_e, kH3_t, kH3_f, kH4_e, mM1_e, kM1_e, kM2_e, kM3_e, mJs_n, mJs_c, kJ_e, dFmt_s, dNeg_i, dDivmod_e, dMax2_e, dMin2_e, dCut_l, dCut_r, dCut_t, dCut_s, dPop_e, fApp_e, List.getElem?_cons_zero, List.getElem?_cons_succ, List.set_cons_zero, List.set_cons_succ, Option.bind_some, Option.bind_none, Option.map_some, Option.map_none, List.map_cons, List.map_nil, List.length_cons, List.length_nil, List.replicate, List.cons_append, List.nil_append, List.set_set, if_true, if_false, ite_true, ite_false, reduceIte, Nat.reduceAdd, Nat.reduceSub, Nat.zero_add, Nat.add_zero, Bool.not_true, Bool.not_false, decide_true, decide_false, Bool.true_and, Bool.and_true, Bool.false_and, Bool.and_false, Bool.or_true, Bool.true_or, Bool.or_false, Bool.false_or, eq_self]
      · have e2 : (most < (x.length : Int)) = False := eq_false h2
        have lc : mLc (iAny (mOf (mVar 0))) (gN 2) (mT (m2 dNotIn (mBw 2) (mOf (mCon (.str "abcdefghijklmnopqrstuvwxyz"))))) (mVar 2) [2] [.fz (.str x), .fz (.int most), .no] c = .ok (.lst (((chrs x).filter fun d => !chL d).map id), true) [.fz (.str x), .fz (.int most), .no] c := by
          have := mLc_pure (s := [.fz (.str x), .fz (.int most), .no]) (s1 := [.fz (.str x), .fz (.int most), .no]) (c := c) (c1 := c) (mi := iAny (mOf (mVar 0))) (g := gN 2) (t := mT (m2 dNotIn (mBw 2) (mOf (mCon (.str "abcdefghijklmnopqrstuvwxyz"))))) (m := mVar 2) (vs := [2]) (p := fun d => !chL d) (q := id) (iAny_s (x := x) (by simp only [b_ok, b_bad, b_ex, f_ok, f_bad, f_ex, n_nx, n_rt, n_bk, n_ct, n_ex, n_bad, l_nx, l_rt, l_bk, l_ct, l_ex, l_bad, sNx_e, sSeq_e, sBk_e, sCt_e, sRetN_e, sExp_e, kExp_e, sRet_e, kRet_e, sIf_e, kIf_t, kIf_f, sSet_e, kSet_e, svOf_t, svOf_f, sSetC_e, kCell_e, sAsg_e, kG1_e, oF_s, oF_n, gN_e, gT_e, gsNil_e, gsCons_e, sPar_e, kPar1_e, kPar2_e, sPar3_e, kPr1_e, kPr2_e, kPr3_e, sPut_e, kPut1_e, kPut2_e, isLst_l, kPut_e, kPt_e, kPu_e, plGet_e, pG_o, pG_c, plS_e, pS_o, pS_f, plC_e, pC_o, pC_c, mFr_e, kFz_e, mVar_e, kVar_f, kVar_o, mMov_e, kMov_f, kMov_o, mBw_e, kBw_f, kBw_o, mCon_e, mOf_e, kOf_e, o2_e, m2_e, k2a_e, k2b_e, kDB_s, kDB_n, fl_e, m1_e, k1a_e, get_dv, get_bw, sv_f, sv_o, sv_n, de_cell, de_non, de_bool, de_int, de_str, de_fn, de_rol, de_lst, de_tup, de_dct, de_dtt, de_ins, mCB_e, kCB_e, getAll_n, getAll_c, g2_e, mVals_e, kVl_e, vals_n, vals_c, aNil_e, aCons_e, kC1_e, kC2_e, mT_e, kTb_e, tAnd_e, kAn_t, kAn_f, tOr_e, kOr_t, kOr_f, tNot_e, kNt_e, mTru_e, kTr_e, kO_s, dTru_b, mIf_e, kIfe_t, kIfe_f, mAnd_e, kAnd_t, kAnd_f, mOr_e, kOr2_t, kOr2_f, mNot_e, kNot2_e, kFr_o, mFn_e, kF1_e, kFn_e, mFnK_e, kK1_e, v2_e, kK2_e, mMut_e, kMu_e, mMut0_e, oM_e, kMut_e, pNone_e, pSome_e, kPs_e, mCut_e, kCt1_e, kCt2_e, oC3_e, kCt3_e, fM_e, endF_n, endF_r, dAdd_i, dAdd_s, dAdd_l, dAdd_t, dSub_i, dMul_i, dDiv_i, dMod_i, dPow_i, dLt_i, dLe_i, dGt_i, dGe_i, dLt_s, dEq_i, dEq_b, dEq_s, dNe_i, dNe_b, dNe_s, dInt_i, dAbs_i, dLen_l, dLen_r, dLen_t, dLen_s, dIx_l, dIx_r, dIx_t, dList_l, dList_r, dList_t, dTuple_l, dTuple_t, dDispL_e, dDispT_e, dIsN_n, dNotN_n, dIsN_bool, dNotN_bool, dIsN_int, dNotN_int, dIsN_str, dNotN_str, dIsN_lst, dNotN_lst, dIsN_tup, dNotN_tup, dIsi_non, dIsiT_non, dIsi_bool, dIsiT_bool, dIsi_int, dIsiT_int, dIsi_str, dIsiT_str, dIsi_lst, dIsiT_lst, dIsi_rol, dIsiT_rol, dIsi_tup, dIsiT_tup, mChain_e, kH1_e, kH2_e, kH3_t, kH3_f, kH4_e, mM1_e, kM1_e, kM2_e, kM3_e, mJs_n, mJs_c, kJ_e, dFmt_s, dNeg_i, dDivmod_e, dMax2_e, dMin2_e, dCut_l, dCut_r, dCut_t, dCut_s, dPop_e, fApp_e, List.getElem?_cons_zero, List.getElem?_cons_succ, List.set_cons_zero, List.set_cons_succ, Option.bind_some, Option.bind_none, Option.map_some, Option.map_none, List.map_cons, List.map_nil, List.length_cons, List.length_nil, List.replicate, List.cons_append, List.nil_append, List.set_set, if_true, if_false, ite_true, ite_false, reduceIte, Nat.reduceAdd, Nat.reduceSub, Nat.zero_add, Nat.add_zero, Bool.not_true, Bool.not_false, decide_true, decide_false, Bool.true_and, Bool.and_true, Bool.false_and, Bool.and_false, Bool.or_true, Bool.true_or, Bool.or_false, Bool.false_or, eq_self])) (by
            rw [chrs_len]
            exact of_eq_true z) fun d hd => by
            obtain ⟨k, hk, rfl⟩ := chrs_mem hd
            refine ⟨_, rfl, rfl, ?_, fun _ => ⟨false, ?_⟩⟩
            · simp only [swipe, dNotIn_let, chL, b_ok, b_bad, b_ex, f_ok, f_bad, f_ex, n_nx, n_rt, n_bk, n_ct, n_ex, n_bad, l_nx, l_rt, l_bk, l_ct, l_ex, l_bad, sNx_e, sSeq_e, sBk_e, sCt_e, sRetN_e, sExp_e, kExp_e, sRet_e, kRet_e, sIf_e, kIf_t, kIf_f, sSet_e, kSet_e, svOf_t, svOf_f, sSetC_e, kCell_e, sAsg_e, kG1_e, oF_s, oF_n, gN_e, gT_e, gsNil_e, gsCons_e, sPar_e, kPar1_e, kPar2_e, sPar3_e, kPr1_e, kPr2_e, kPr3_e, sPut_e, kPut1_e, kPut2_e, isLst_l, kPut_e, kPt_e, kPu_e, plGet_e, pG_o, pG_c, plS_e, pS_o, pS_f, plC_e, pC_o, pC_c, mFr_e, kFz_e, mVar_e, kVar_f, kVar_o, mMov_e, kMov_f, kMov_o, mBw_e, kBw_f, kBw_o, mCon_e, mOf_e, kOf_e, o2_e, m2_e, k2a_e, k2b_e, kDB_s, kDB_n, fl_e, m1_e, k1a_e, get_dv, get_bw, sv_f, sv_o, sv_n, de_cell, de_non, de_bool, de_int, de_str, de_fn, de_rol, de_lst, de_tup, de_dct, de_dtt, de_ins, mCB_e, kCB_e, getAll_n, getAll_c, g2_e, mVals_e, kVl_e, vals_n, vals_c, aNil_e, aCons_e, kC1_e, kC2_e, mT_e, kTb_e, tAnd_e, kAn_t, kAn_f, tOr_e, kOr_t, kOr_f, tNot_e, kNt_e, mTru_e, kTr_e, kO_s, dTru_b, mIf_e, kIfe_t, kIfe_f, mAnd_e, kAnd_t, kAnd_f, mOr_e, kOr2_t, kOr2_f, mNot_e, kNot2_e, kFr_o, mFn_e, kF1_e, kFn_e, mFnK_e, kK1_e, v2_e, kK2_e, mMut_e, kMu_e, mMut0_e, oM_e, kMut_e, pNone_e, pSome_e, kPs_e, mCut_e, kCt1_e, kCt2_e, oC3_e, kCt3_e, fM_e, endF_n, endF_r, dAdd_i, dAdd_s, dAdd_l, dAdd_t, dSub_i, dMul_i, dDiv_i, dMod_i, dPow_i, dLt_i, dLe_i, dGt_i, dGe_i, dLt_s, dEq_i, dEq_b, dEq_s, dNe_i, dNe_b, dNe_s, dInt_i, dAbs_i, dLen_l, dLen_r, dLen_t, dLen_s, dIx_l, dIx_r, dIx_t, dList_l, dList_r, dList_t, dTuple_l, dTuple_t, dDispL_e, dDispT_e, dIsN_n, dNotN_n, dIsN_bool, dNotN_bool, dIsN_int, dNotN_int, dIsN_str, dNotN_str, dIsN_lst, dNotN_lst, dIsN_tup, dNotN_tup, dIsi_non, dIsiT_non, dIsi_bool, dIsiT_bool, dIsi_int, dIsiT_int, dIsi_str, dIsiT_str, dIsi_lst, dIsiT_lst, dIsi_rol, dIsiT_rol, dIsi_tup, dIsiT_tup, mChain_e, kH1_e, kH2_e, kH3_t, kH3_f, kH4_e, mM1_e, kM1_e, kM2_e, kM3_e, mJs_n, mJs_c, kJ_e, dFmt_s, dNeg_i, dDivmod_e, dMax2_e, dMin2_e, dCut_l, dCut_r, dCut_t, dCut_s, dPop_e, fApp_e, List.getElem?_cons_zero, List.getElem?_cons_succ, List.set_cons_zero, List.set_cons_succ, Option.bind_some, Option.bind_none, Option.map_some, Option.map_none, List.map_cons, List.map_nil, List.length_cons, List.length_nil, List.replicate, List.cons_append, List.nil_append, List.set_set, if_true, if_false, ite_true, ite_false, reduceIte, Nat.reduceAdd, Nat.reduceSub, Nat.zero_add, Nat.add_zero, Bool.not_true, Bool.not_false, decide_true, decide_false, Bool.true_and, Bool.and_true, Bool.false_and, Bool.and_false, Bool.or_true, Bool.true_or, Bool.or_false, Bool.false_or, eq_self]
            · simp only [swipe, id, b_ok, b_bad, b_ex, f_ok, f_bad, f_ex, n_nx, n_rt, n_bk, n_ct, n_ex, n_bad, l_nx, l_rt, l_bk, l_ct, l_ex, l_bad, sNx_e, sSeq_e, sBk_e, sCt_e, sRetN_e, sExp_e, kExp_e, sRet_e, kRet_e, sIf_e, kIf_t, kIf_f, sSet_e, kSet_e, svOf_t, svOf_f, sSetC_e, kCell_e, sAsg_e, kG1_e, oF_s, oF_n, gN_e, gT_e, gsNil_e, gsCons_e, sPar_e, kPar1_e, kPar2_e, sPar3_e, kPr1_e, kPr2_e, kPr3_e, sPut_e, kPut1_e, kPut2_e, isLst_l, kPut_e, kPt_e, kPu_e, plGet_e, pG_o, pG_c, plS_e, pS_o, pS_f, plC_e, pC_o, pC_c, mFr_e, kFz_e, mVar_e, kVar_f, kVar_o, mMov_e, kMov_f, kMov_o, mBw_e, kBw_f, kBw_o, mCon_e, mOf_e, kOf_e, o2_e, m2_e, k2a_e, k2b_e, kDB_s, kDB_n, fl_e, m1_e, k1a_e, get_dv, get_bw, sv_f, sv_o, sv_n, de_cell, de_non, de_bool, de_int, de_str, de_fn, de_rol, de_lst, de_tup, de_dct, de_dtt, de_ins, mCB_e, kCB_e, getAll_n, getAll_c, g2_e, mVals_e, kVl_e, vals_n, vals_c, aNil_e, aCons_e, kC1_e, kC2_e, mT_e, kTb_e, tAnd_e, kAn_t, kAn_f, tOr_e, kOr_t, kOr_f, tNot_e, kNt_e, mTru_e, kTr_e, kO_s, dTru_b, mIf_e, kIfe_t, kIfe_f, mAnd_e, kAnd_t, kAnd_f, mOr_e, kOr2_t, kOr2_f, mNot_e, kNot2_e, kFr_o, mFn_e, kF1_e, kFn_e, mFnK_e, kK1_e, v2_e, kK2_e, mMut_e, kMu_e, mMut0_e, oM_e, kMut_e, pNone_e, pSome_e, kPs_e, mCut_e, kCt1_e, kCt2_e, oC3_e, kCt3_e, fM_e, endF_n, endF_r, dAdd_i, dAdd_s, dAdd_l, dAdd_t, dSub_i, dMul_i, dDiv_i, dMod_i, dPow_i, dLt_i, dLe_i, dGt_i, dGe_i, dLt_s, dEq_i, dEq_b, dEq_s, dNe_i, dNe_b, dNe_s, dInt_i, dAbs_i, dLen_l, dLen_r, dLen_t, dLen_s, dIx_l, dIx_r, dIx_t, dList_l, dList_r, dList_t, dTuple_l, dTuple_t, dDispL_e, dDispT_e, dIsN_n, dNotN_n, dIsN_bool, dNotN_bool, dIsN_int, dNotN_int, dIsN_str, dNotN_str, dIsN_lst, dNotN_lst, dIsN_tup, dNotN_tup, dIsi_non, dIsiT_non, dIsi_bool, dIsiT_bool, dIsi_int, dIsiT_int, dIsi_str, dIsiT_str, dIsi_lst, dIsiT_lst, dIsi_rol, dIsiT_rol, dIsi_tup, dIsiT_tup, mChain_e, kH1_e, kH2_e, kH3_t, kH3_f, kH4_e, mM1_e, kM1_e, kM2_e, kM3_e, mJs_n, mJs_c, kJ_e, dFmt_s, dNeg_i, dDivmod_e, dMax2_e, dMin2_e, dCut_l, dCut_r, dCut_t, dCut_s, dPop_e, fApp_e, List.getElem?_cons_zero, List.getElem?_cons_succ, List.set_cons_zero, List.set_cons_succ, Option.bind_some, Option.bind_none, Option.map_some, Option.map_none, List.map_cons, List.map_nil, List.length_cons, List.length_nil, List.replicate, List.cons_append, List.nil_append, List.set_set, if_true, if_false, ite_true, ite_false, reduceIte, Nat.reduceAdd, Nat.reduceSub, Nat.zero_add, Nat.add_zero, Bool.not_true, Bool.not_false, decide_true, decide_false, Bool.true_and, Bool.and_true, Bool.false_and, Bool.and_false, Bool.or_true, Bool.true_or, Bool.or_false, Bool.false_or, eq_self]
          rw [this]
          rfl
        have en : dEqB (.lst (((chrs x).filter fun d => !chL d).map id)) (.lst []) = some ((chrs x).all chL) := by
          rw [List.map_id, eq_nil (n := 0) (by decide), isEmpty_filter]
          intro d hd
          obtain ⟨k, hk, rfl⟩ := chrs_mem ((List.mem_filter.mp hd).1)
          exact .str (asc1 hx hk)
        have sp : spell (.str x) most = (chrs x).all chL := by
          rw [chrs_all]
          show (decide (1 ≤ (x.length : Int)) && decide ((x.length : Int) ≤ most) && x.cps.toList.all isL) = _
          rw [decide_eq_true (show (1 : Int) ≤ (x.length : Int) by omega), decide_eq_true (show (x.length : Int) ≤ most by omega)]
          rfl
        rw [sp]
        have hz : ((0 : Nat) ≤ sizeLine) = True := eq_true (Nat.zero_le _)
        simp only [f__law_letters, m__law_letters, tyIs, z, e1, e2, lc, dEq_of en, hz, b_ok, b_bad, b_ex, f_ok, f_bad, f_ex, n_nx, n_rt, n_bk, n_ct, n_ex, n_bad, l_nx, l_rt, l_bk, l_ct, l_ex, l_bad, sNx_e, sSeq_e, sBk_e, sCt_e, sRetN_e, sExp_e, kExp_e, sRet_e, kRet_e, sIf_e, kIf_t, kIf_f, sSet_e, kSet_e, svOf_t, svOf_f, sSetC_e, kCell_e, sAsg_e, kG1_e, oF_s, oF_n, gN_e, gT_e, gsNil_e, gsCons_e, sPar_e, kPar1_e, kPar2_e, sPar3_e, kPr1_e, kPr2_e, kPr3_e, sPut_e, kPut1_e, kPut2_e, isLst_l, kPut_e, kPt_e, kPu_e, plGet_e, pG_o, pG_c, plS_e, pS_o, pS_f, plC_e, pC_o, pC_c, mFr_e, kFz_e, mVar_e, kVar_f, kVar_o, mMov_e, kMov_f, kMov_o, mBw_e, kBw_f, kBw_o, mCon_e, mOf_e, kOf_e, o2_e, m2_e, k2a_e, k2b_e, kDB_s, kDB_n, fl_e, m1_e, k1a_e, get_dv, get_bw, sv_f, sv_o, sv_n, de_cell, de_non, de_bool, de_int, de_str, de_fn, de_rol, de_lst, de_tup, de_dct, de_dtt, de_ins, mCB_e, kCB_e, getAll_n, getAll_c, g2_e, mVals_e, kVl_e, vals_n, vals_c, aNil_e, aCons_e, kC1_e, kC2_e, mT_e, kTb_e, tAnd_e, kAn_t, kAn_f, tOr_e, kOr_t, kOr_f, tNot_e, kNt_e, mTru_e, kTr_e, kO_s, dTru_b, mIf_e, kIfe_t, kIfe_f, mAnd_e, kAnd_t, kAnd_f, mOr_e, kOr2_t, kOr2_f, mNot_e, kNot2_e, kFr_o, mFn_e, kF1_e, kFn_e, mFnK_e, kK1_e, v2_e, kK2_e, mMut_e, kMu_e, mMut0_e, oM_e, kMut_e, pNone_e, pSome_e, kPs_e, mCut_e, kCt1_e, kCt2_e, oC3_e, kCt3_e, fM_e, endF_n, endF_r, dAdd_i, dAdd_s, dAdd_l, dAdd_t, dSub_i, dMul_i, dDiv_i, dMod_i, dPow_i, dLt_i, dLe_i, dGt_i, dGe_i, dLt_s, dEq_i, dEq_b, dEq_s, dNe_i, dNe_b, dNe_s, dInt_i, dAbs_i, dLen_l, dLen_r, dLen_t, dLen_s, dIx_l, dIx_r, dIx_t, dList_l, dList_r, dList_t, dTuple_l, dTuple_t, dDispL_e, dDispT_e, dIsN_n, dNotN_n, dIsN_bool, dNotN_bool, dIsN_int, dNotN_int, dIsN_str, dNotN_str, dIsN_lst, dNotN_lst, dIsN_tup, dNotN_tup, dIsi_non, dIsiT_non, dIsi_bool, dIsiT_bool, dIsi_int, dIsiT_int, dIsi_str, dIsiT_str, dIsi_lst, dIsiT_lst, dIsi_rol, dIsiT_rol, dIsi_tup, dIsiT_tup, mChain_e, kH1_e, kH2_e, kH3_t, kH3_f, kH4_e, mM1_e, kM1_e, kM2_e, kM3_e, mJs_n, mJs_c, kJ_e, dFmt_s, dNeg_i, dDivmod_e, dMax2_e, dMin2_e, dCut_l, dCut_r, dCut_t, dCut_s, dPop_e, fApp_e, List.getElem?_cons_zero, List.getElem?_cons_succ, List.set_cons_zero, List.set_cons_succ, Option.bind_some, Option.bind_none, Option.map_some, Option.map_none, List.map_cons, List.map_nil, List.length_cons, List.length_nil, List.replicate, List.cons_append, List.nil_append, List.set_set, if_true, if_false, ite_true, ite_false, reduceIte, Nat.reduceAdd, Nat.reduceSub, Nat.zero_add, Nat.add_zero, Bool.not_true, Bool.not_false, decide_true, decide_false, Bool.true_and, Bool.and_true, Bool.false_and, Bool.and_false, Bool.or_true, Bool.true_or, Bool.or_false, Bool.false_or, eq_self]
  | non => simp only [f__law_letters, m__law_letters, tyIs, spell, b_ok, b_bad, b_ex, f_ok, f_bad, f_ex, n_nx, n_rt, n_bk, n_ct, n_ex, n_bad, l_nx, l_rt, l_bk, l_ct, l_ex, l_bad, sNx_e, sSeq_e, sBk_e, sCt_e, sRetN_e, sExp_e, kExp_e, sRet_e, kRet_e, sIf_e, kIf_t, kIf_f, sSet_e, kSet_e, svOf_t, svOf_f, sSetC_e, kCell_e, sAsg_e, kG1_e, oF_s, oF_n, gN_e, gT_e, gsNil_e, gsCons_e, sPar_e, kPar1_e, kPar2_e, sPar3_e, kPr1_e, kPr2_e, kPr3_e, sPut_e, kPut1_e, kPut2_e, isLst_l, kPut_e, kPt_e, kPu_e, plGet_e, pG_o, pG_c, plS_e, pS_o, pS_f, plC_e, pC_o, pC_c, mFr_e, kFz_e, mVar_e, kVar_f, kVar_o, mMov_e, kMov_f, kMov_o, mBw_e, kBw_f, kBw_o, mCon_e, mOf_e, kOf_e, o2_e, m2_e, k2a_e, k2b_e, kDB_s, kDB_n, fl_e, m1_e, k1a_e, get_dv, get_bw, sv_f, sv_o, sv_n, de_cell, de_non, de_bool, de_int, de_str, de_fn, de_rol, de_lst, de_tup, de_dct, de_dtt, de_ins, mCB_e, kCB_e, getAll_n, getAll_c, g2_e, mVals_e, kVl_e, vals_n, vals_c, aNil_e, aCons_e, kC1_e, kC2_e, mT_e, kTb_e, tAnd_e, kAn_t, kAn_f, tOr_e, kOr_t, kOr_f, tNot_e, kNt_e, mTru_e, kTr_e, kO_s, dTru_b, mIf_e, kIfe_t, kIfe_f, mAnd_e, kAnd_t, kAnd_f, mOr_e, kOr2_t, kOr2_f, mNot_e, kNot2_e, kFr_o, mFn_e, kF1_e, kFn_e, mFnK_e, kK1_e, v2_e, kK2_e, mMut_e, kMu_e, mMut0_e, oM_e, kMut_e, pNone_e, pSome_e, kPs_e, mCut_e, kCt1_e, kCt2_e, oC3_e, kCt3_e, fM_e, endF_n, endF_r, dAdd_i, dAdd_s, dAdd_l, dAdd_t, dSub_i, dMul_i, dDiv_i, dMod_i, dPow_i, dLt_i, dLe_i, dGt_i, dGe_i, dLt_s, dEq_i, dEq_b, dEq_s, dNe_i, dNe_b, dNe_s, dInt_i, dAbs_i, dLen_l, dLen_r, dLen_t, dLen_s, dIx_l, dIx_r, dIx_t, dList_l, dList_r, dList_t, dTuple_l, dTuple_t, dDispL_e, dDispT_e, dIsN_n, dNotN_n, dIsN_bool, dNotN_bool, dIsN_int, dNotN_int, dIsN_str, dNotN_str, dIsN_lst, dNotN_lst, dIsN_tup, dNotN_tup, dIsi_non, dIsiT_non, dIsi_bool, dIsiT_bool, dIsi_int, dIsiT_int, dIsi_str, dIsiT_str, dIsi_lst, dIsiT_lst, dIsi_rol, dIsiT_rol, dIsi_tup, dIsiT_tup, mChain_e, kH1_e, kH2_e, kH3_t, kH3_f, kH4_e, mM1_e, kM1_e, kM2_e, kM3_e, mJs_n, mJs_c, kJ_e, dFmt_s, dNeg_i, dDivmod_e, dMax2_e, dMin2_e, dCut_l, dCut_r, dCut_t, dCut_s, dPop_e, fApp_e, List.getElem?_cons_zero, List.getElem?_cons_succ, List.set_cons_zero, List.set_cons_succ, Option.bind_some, Option.bind_none, Option.map_some, Option.map_none, List.map_cons, List.map_nil, List.length_cons, List.length_nil, List.replicate, List.cons_append, List.nil_append, List.set_set, if_true, if_false, ite_true, ite_false, reduceIte, Nat.reduceAdd, Nat.reduceSub, Nat.zero_add, Nat.add_zero, Bool.not_true, Bool.not_false, decide_true, decide_false, Bool.true_and, Bool.and_true, Bool.false_and, Bool.and_false, Bool.or_true, Bool.true_or, Bool.or_false, Bool.false_or, eq_self]
  | bool b => simp only [f__law_letters, m__law_letters, tyIs, spell, b_ok, b_bad, b_ex, f_ok, f_bad, f_ex, n_nx, n_rt, n_bk, n_ct, n_ex, n_bad, l_nx, l_rt, l_bk, l_ct, l_ex, l_bad, sNx_e, sSeq_e, sBk_e, sCt_e, sRetN_e, sExp_e, kExp_e, sRet_e, kRet_e, sIf_e, kIf_t, kIf_f, sSet_e, kSet_e, svOf_t, svOf_f, sSetC_e, kCell_e, sAsg_e, kG1_e, oF_s, oF_n, gN_e, gT_e, gsNil_e, gsCons_e, sPar_e, kPar1_e, kPar2_e, sPar3_e, kPr1_e, kPr2_e, kPr3_e, sPut_e, kPut1_e, kPut2_e, isLst_l, kPut_e, kPt_e, kPu_e, plGet_e, pG_o, pG_c, plS_e, pS_o, pS_f, plC_e, pC_o, pC_c, mFr_e, kFz_e, mVar_e, kVar_f, kVar_o, mMov_e, kMov_f, kMov_o, mBw_e, kBw_f, kBw_o, mCon_e, mOf_e, kOf_e, o2_e, m2_e, k2a_e, k2b_e, kDB_s, kDB_n, fl_e, m1_e, k1a_e, get_dv, get_bw, sv_f, sv_o, sv_n, de_cell, de_non, de_bool, de_int, de_str, de_fn, de_rol, de_lst, de_tup, de_dct, de_dtt, de_ins, mCB_e, kCB_e, getAll_n, getAll_c, g2_e, mVals_e, kVl_e, vals_n, vals_c, aNil_e, aCons_e, kC1_e, kC2_e, mT_e, kTb_e, tAnd_e, kAn_t, kAn_f, tOr_e, kOr_t, kOr_f, tNot_e, kNt_e, mTru_e, kTr_e, kO_s, dTru_b, mIf_e, kIfe_t, kIfe_f, mAnd_e, kAnd_t, kAnd_f, mOr_e, kOr2_t, kOr2_f, mNot_e, kNot2_e, kFr_o, mFn_e, kF1_e, kFn_e, mFnK_e, kK1_e, v2_e, kK2_e, mMut_e, kMu_e, mMut0_e, oM_e, kMut_e, pNone_e, pSome_e, kPs_e, mCut_e, kCt1_e, kCt2_e, oC3_e, kCt3_e, fM_e, endF_n, endF_r, dAdd_i, dAdd_s, dAdd_l, dAdd_t, dSub_i, dMul_i, dDiv_i, dMod_i, dPow_i, dLt_i, dLe_i, dGt_i, dGe_i, dLt_s, dEq_i, dEq_b, dEq_s, dNe_i, dNe_b, dNe_s, dInt_i, dAbs_i, dLen_l, dLen_r, dLen_t, dLen_s, dIx_l, dIx_r, dIx_t, dList_l, dList_r, dList_t, dTuple_l, dTuple_t, dDispL_e, dDispT_e, dIsN_n, dNotN_n, dIsN_bool, dNotN_bool, dIsN_int, dNotN_int, dIsN_str, dNotN_str, dIsN_lst, dNotN_lst, dIsN_tup, dNotN_tup, dIsi_non, dIsiT_non, dIsi_bool, dIsiT_bool, dIsi_int, dIsiT_int, dIsi_str, dIsiT_str, dIsi_lst, dIsiT_lst, dIsi_rol, dIsiT_rol, dIsi_tup, dIsiT_tup, mChain_e, kH1_e, kH2_e, kH3_t, kH3_f, kH4_e, mM1_e, kM1_e, kM2_e, kM3_e, mJs_n, mJs_c, kJ_e, dFmt_s, dNeg_i, dDivmod_e, dMax2_e, dMin2_e, dCut_l, dCut_r, dCut_t, dCut_s, dPop_e, fApp_e, List.getElem?_cons_zero, List.getElem?_cons_succ, List.set_cons_zero, List.set_cons_succ, Option.bind_some, Option.bind_none, Option.map_some, Option.map_none, List.map_cons, List.map_nil, List.length_cons, List.length_nil, List.replicate, List.cons_append, List.nil_append, List.set_set, if_true, if_false, ite_true, ite_false, reduceIte, Nat.reduceAdd, Nat.reduceSub, Nat.zero_add, Nat.add_zero, Bool.not_true, Bool.not_false, decide_true, decide_false, Bool.true_and, Bool.and_true, Bool.false_and, Bool.and_false, Bool.or_true, Bool.true_or, Bool.or_false, Bool.false_or, eq_self]
  | int i => simp only [f__law_letters, m__law_letters, tyIs, spell, b_ok, b_bad, b_ex, f_ok, f_bad, f_ex, n_nx, n_rt, n_bk, n_ct, n_ex, n_bad, l_nx, l_rt, l_bk, l_ct, l_ex, l_bad, sNx_e, sSeq_e, sBk_e, sCt_e, sRetN_e, sExp_e, kExp_e, sRet_e, kRet_e, sIf_e, kIf_t, kIf_f, sSet_e, kSet_e, svOf_t, svOf_f, sSetC_e, kCell_e, sAsg_e, kG1_e, oF_s, oF_n, gN_e, gT_e, gsNil_e, gsCons_e, sPar_e, kPar1_e, kPar2_e, sPar3_e, kPr1_e, kPr2_e, kPr3_e, sPut_e, kPut1_e, kPut2_e, isLst_l, kPut_e, kPt_e, kPu_e, plGet_e, pG_o, pG_c, plS_e, pS_o, pS_f, plC_e, pC_o, pC_c, mFr_e, kFz_e, mVar_e, kVar_f, kVar_o, mMov_e, kMov_f, kMov_o, mBw_e, kBw_f, kBw_o, mCon_e, mOf_e, kOf_e, o2_e, m2_e, k2a_e, k2b_e, kDB_s, kDB_n, fl_e, m1_e, k1a_e, get_dv, get_bw, sv_f, sv_o, sv_n, de_cell, de_non, de_bool, de_int, de_str, de_fn, de_rol, de_lst, de_tup, de_dct, de_dtt, de_ins, mCB_e, kCB_e, getAll_n, getAll_c, g2_e, mVals_e, kVl_e, vals_n, vals_c, aNil_e, aCons_e, kC1_e, kC2_e, mT_e, kTb_e, tAnd_e, kAn_t, kAn_f, tOr_e, kOr_t, kOr_f, tNot_e, kNt_e, mTru_e, kTr_e, kO_s, dTru_b, mIf_e, kIfe_t, kIfe_f, mAnd_e, kAnd_t, kAnd_f, mOr_e, kOr2_t, kOr2_f, mNot_e, kNot2_e, kFr_o, mFn_e, kF1_e, kFn_e, mFnK_e, kK1_e, v2_e, kK2_e, mMut_e, kMu_e, mMut0_e, oM_e, kMut_e, pNone_e, pSome_e, kPs_e, mCut_e, kCt1_e, kCt2_e, oC3_e, kCt3_e, fM_e, endF_n, endF_r, dAdd_i, dAdd_s, dAdd_l, dAdd_t, dSub_i, dMul_i, dDiv_i, dMod_i, dPow_i, dLt_i, dLe_i, dGt_i, dGe_i, dLt_s, dEq_i, dEq_b, dEq_s, dNe_i, dNe_b, dNe_s, dInt_i, dAbs_i, dLen_l, dLen_r, dLen_t, dLen_s, dIx_l, dIx_r, dIx_t, dList_l, dList_r, dList_t, dTuple_l, dTuple_t, dDispL_e, dDispT_e, dIsN_n, dNotN_n, dIsN_bool, dNotN_bool, dIsN_int, dNotN_int, dIsN_str, dNotN_str, dIsN_lst, dNotN_lst, dIsN_tup, dNotN_tup, dIsi_non, dIsiT_non, dIsi_bool, dIsiT_bool, dIsi_int, dIsiT_int, dIsi_str, dIsiT_str, dIsi_lst, dIsiT_lst, dIsi_rol, dIsiT_rol, dIsi_tup, dIsiT_tup, mChain_e, kH1_e, kH2_e, kH3_t, kH3_f, kH4_e, mM1_e, kM1_e, kM2_e, kM3_e, mJs_n, mJs_c, kJ_e, dFmt_s, dNeg_i, dDivmod_e, dMax2_e, dMin2_e, dCut_l, dCut_r, dCut_t, dCut_s, dPop_e, fApp_e, List.getElem?_cons_zero, List.getElem?_cons_succ, List.set_cons_zero, List.set_cons_succ, Option.bind_some, Option.bind_none, Option.map_some, Option.map_none, List.map_cons, List.map_nil, List.length_cons, List.length_nil, List.replicate, List.cons_append, List.nil_append, List.set_set, if_true, if_false, ite_true, ite_false, reduceIte, Nat.reduceAdd, Nat.reduceSub, Nat.zero_add, Nat.add_zero, Bool.not_true, Bool.not_false, decide_true, decide_false, Bool.true_and, Bool.and_true, Bool.false_and, Bool.and_false, Bool.or_true, Bool.true_or, Bool.or_false, Bool.false_or, eq_self]
  | lst h1 h2 => simp only [f__law_letters, m__law_letters, tyIs, spell, b_ok, b_bad, b_ex, f_ok, f_bad, f_ex, n_nx, n_rt, n_bk, n_ct, n_ex, n_bad, l_nx, l_rt, l_bk, l_ct, l_ex, l_bad, sNx_e, sSeq_e, sBk_e, sCt_e, sRetN_e, sExp_e, kExp_e, sRet_e, kRet_e, sIf_e, kIf_t, kIf_f, sSet_e, kSet_e, svOf_t, svOf_f, sSetC_e, kCell_e, sAsg_e, kG1_e, oF_s, oF_n, gN_e, gT_e, gsNil_e, gsCons_e, sPar_e, kPar1_e, kPar2_e, sPar3_e, kPr1_e, kPr2_e, kPr3_e, sPut_e, kPut1_e, kPut2_e, isLst_l, kPut_e, kPt_e, kPu_e, plGet_e, pG_o, pG_c, plS_e, pS_o, pS_f, plC_e, pC_o, pC_c, mFr_e, kFz_e, mVar_e, kVar_f, kVar_o, mMov_e, kMov_f, kMov_o, mBw_e, kBw_f, kBw_o, mCon_e, mOf_e, kOf_e, o2_e, m2_e, k2a_e, k2b_e, kDB_s, kDB_n, fl_e, m1_e, k1a_e, get_dv, get_bw, sv_f, sv_o, sv_n, de_cell, de_non, de_bool, de_int, de_str, de_fn, de_rol, de_lst, de_tup, de_dct, de_dtt, de_ins, mCB_e, kCB_e, getAll_n, getAll_c, g2_e, mVals_e, kVl_e, vals_n, vals_c, aNil_e, aCons_e, kC1_e, kC2_e, mT_e, kTb_e, tAnd_e, kAn_t, kAn_f, tOr_e, kOr_t, kOr_f, tNot_e, kNt_e, mTru_e, kTr_e, kO_s, dTru_b, mIf_e, kIfe_t, kIfe_f, mAnd_e, kAnd_t, kAnd_f, mOr_e, kOr2_t, kOr2_f, mNot_e, kNot2_e, kFr_o, mFn_e, kF1_e, kFn_e, mFnK_e, kK1_e, v2_e, kK2_e, mMut_e, kMu_e, mMut0_e, oM_e, kMut_e, pNone_e, pSome_e, kPs_e, mCut_e, kCt1_e, kCt2_e, oC3_e, kCt3_e, fM_e, endF_n, endF_r, dAdd_i, dAdd_s, dAdd_l, dAdd_t, dSub_i, dMul_i, dDiv_i, dMod_i, dPow_i, dLt_i, dLe_i, dGt_i, dGe_i, dLt_s, dEq_i, dEq_b, dEq_s, dNe_i, dNe_b, dNe_s, dInt_i, dAbs_i, dLen_l, dLen_r, dLen_t, dLen_s, dIx_l, dIx_r, dIx_t, dList_l, dList_r, dList_t, dTuple_l, dTuple_t, dDispL_e, dDispT_e, dIsN_n, dNotN_n, dIsN_bool, dNotN_bool, dIsN_int, dNotN_int, dIsN_str, dNotN_str, dIsN_lst, dNotN_lst, dIsN_tup, dNotN_tup, dIsi_non, dIsiT_non, dIsi_bool, dIsiT_bool, dIsi_int, dIsiT_int, dIsi_str, dIsiT_str, dIsi_lst, dIsiT_lst, dIsi_rol, dIsiT_rol, dIsi_tup, dIsiT_tup, mChain_e, kH1_e, kH2_e, kH3_t, kH3_f, kH4_e, mM1_e, kM1_e, kM2_e, kM3_e, mJs_n, mJs_c, kJ_e, dFmt_s, dNeg_i, dDivmod_e, dMax2_e, dMin2_e, dCut_l, dCut_r, dCut_t, dCut_s, dPop_e, fApp_e, List.getElem?_cons_zero, List.getElem?_cons_succ, List.set_cons_zero, List.set_cons_succ, Option.bind_some, Option.bind_none, Option.map_some, Option.map_none, List.map_cons, List.map_nil, List.length_cons, List.length_nil, List.replicate, List.cons_append, List.nil_append, List.set_set, if_true, if_false, ite_true, ite_false, reduceIte, Nat.reduceAdd, Nat.reduceSub, Nat.zero_add, Nat.add_zero, Bool.not_true, Bool.not_false, decide_true, decide_false, Bool.true_and, Bool.and_true, Bool.false_and, Bool.and_false, Bool.or_true, Bool.true_or, Bool.or_false, Bool.false_or, eq_self]
  | tup h1 h2 => simp only [f__law_letters, m__law_letters, tyIs, spell, b_ok, b_bad, b_ex, f_ok, f_bad, f_ex, n_nx, n_rt, n_bk, n_ct, n_ex, n_bad, l_nx, l_rt, l_bk, l_ct, l_ex, l_bad, sNx_e, sSeq_e, sBk_e, sCt_e, sRetN_e, sExp_e, kExp_e, sRet_e, kRet_e, sIf_e, kIf_t, kIf_f, sSet_e, kSet_e, svOf_t, svOf_f, sSetC_e, kCell_e, sAsg_e, kG1_e, oF_s, oF_n, gN_e, gT_e, gsNil_e, gsCons_e, sPar_e, kPar1_e, kPar2_e, sPar3_e, kPr1_e, kPr2_e, kPr3_e, sPut_e, kPut1_e, kPut2_e, isLst_l, kPut_e, kPt_e, kPu_e, plGet_e, pG_o, pG_c, plS_e, pS_o, pS_f, plC_e, pC_o, pC_c, mFr_e, kFz_e, mVar_e, kVar_f, kVar_o, mMov_e, kMov_f, kMov_o, mBw_e, kBw_f, kBw_o, mCon_e, mOf_e, kOf_e, o2_e, m2_e, k2a_e, k2b_e, kDB_s, kDB_n, fl_e, m1_e, k1a_e, get_dv, get_bw, sv_f, sv_o, sv_n, de_cell, de_non, de_bool, de_int, de_str, de_fn, de_rol, de_lst, de_tup, de_dct, de_dtt, de_ins, mCB_e, kCB_e, getAll_n, getAll_c, g2_e, mVals_e, kVl_e, vals_n, vals_c, aNil_e, aCons_e, kC1_e, kC2_e, mT_e, kTb_e, tAnd_e, kAn_t, kAn_f, tOr_e, kOr_t, kOr_f, tNot_e, kNt_e, mTru_e, kTr_e, kO_s, dTru_b, mIf_e, kIfe_t, kIfe_f, mAnd_e, kAnd_t, kAnd_f, mOr_e, kOr2_t, kOr2_f, mNot_e, kNot2_e, kFr_o, mFn_e, kF1_e, kFn_e, mFnK_e, kK1_e, v2_e, kK2_e, mMut_e, kMu_e, mMut0_e, oM_e, kMut_e, pNone_e, pSome_e, kPs_e, mCut_e, kCt1_e, kCt2_e, oC3_e, kCt3_e, fM_e, endF_n, endF_r, dAdd_i, dAdd_s, dAdd_l, dAdd_t, dSub_i, dMul_i, dDiv_i, dMod_i, dPow_i, dLt_i, dLe_i, dGt_i, dGe_i, dLt_s, dEq_i, dEq_b, dEq_s, dNe_i, dNe_b, dNe_s, dInt_i, dAbs_i, dLen_l, dLen_r, dLen_t, dLen_s, dIx_l, dIx_r, dIx_t, dList_l, dList_r, dList_t, dTuple_l, dTuple_t, dDispL_e, dDispT_e, dIsN_n, dNotN_n, dIsN_bool, dNotN_bool, dIsN_int, dNotN_int, dIsN_str, dNotN_str, dIsN_lst, dNotN_lst, dIsN_tup, dNotN_tup, dIsi_non, dIsiT_non, dIsi_bool, dIsiT_bool, dIsi_int, dIsiT_int, dIsi_str, dIsiT_str, dIsi_lst, dIsiT_lst, dIsi_rol, dIsiT_rol, dIsi_tup, dIsiT_tup, mChain_e, kH1_e, kH2_e, kH3_t, kH3_f, kH4_e, mM1_e, kM1_e, kM2_e, kM3_e, mJs_n, mJs_c, kJ_e, dFmt_s, dNeg_i, dDivmod_e, dMax2_e, dMin2_e, dCut_l, dCut_r, dCut_t, dCut_s, dPop_e, fApp_e, List.getElem?_cons_zero, List.getElem?_cons_succ, List.set_cons_zero, List.set_cons_succ, Option.bind_some, Option.bind_none, Option.map_some, Option.map_none, List.map_cons, List.map_nil, List.length_cons, List.length_nil, List.replicate, List.cons_append, List.nil_append, List.set_set, if_true, if_false, ite_true, ite_false, reduceIte, Nat.reduceAdd, Nat.reduceSub, Nat.zero_add, Nat.add_zero, Bool.not_true, Bool.not_false, decide_true, decide_false, Bool.true_and, Bool.and_true, Bool.false_and, Bool.and_false, Bool.or_true, Bool.true_or, Bool.or_false, Bool.false_or, eq_self]
/-- the items that are all names are texts -/
theorem names_strs {n : Nat} : ∀ {ds : List EV.D}, (∀ d ∈ ds, Th n d) → ds.all (fun d => spell d 6) = true → ∃ xs : List Str, ds = xs.map .str ∧ ∀ x ∈ xs, Asc x
  | [], _, _ => ⟨[], rfl, fun _ h => by cases h⟩
  | d :: ds, h, ha => by
    rw [List.all_cons, Bool.and_eq_true] at ha
    obtain ⟨xs, e, hx⟩ := names_strs (fun x hx => h x (List.mem_cons_of_mem _ hx)) ha.2
    have hd := h d (List.mem_cons_self ..)
    cases hd with
    | str hy =>
      refine ⟨_ :: xs, by rw [e]; rfl, fun x hx' => ?_⟩
      rcases List.mem_cons.mp hx' with z | z
      · rw [z]; exact hy
      · exact hx x z
    | _ => exact absurd ha.1 (by simp [spell])
theorem dStrs_map : ∀ xs : List Str, dStrs (xs.map .str) = some xs
  | [] => rfl
  | x :: xs => by
    show (dStrs (xs.map .str)).map (x :: ·) = _
    rw [dStrs_map xs]
    rfl
theorem dLenSet_t {xs : List Str} (h : xs.length < 4000) : dLenSet (.tup (xs.map .str)) = some (.int (dedS xs).length, false) := by
  show (dStrs (xs.map .str)).bind (fun ys => if ys.length < 4000 then fl (.int (dedS ys).length) else none) = _
  rw [dStrs_map]
  show (if xs.length < 4000 then fl (.int (dedS xs).length) else none) = _
  rw [if_pos h]
  rfl
theorem dLenSet_l {xs : List Str} (h : xs.length < 4000) : dLenSet (.lst (xs.map .str)) = some (.int (dedS xs).length, false) := dLenSet_t h
theorem dSorted_e {xs : List Str} (h : xs.length < 64) : dSorted [.lst (xs.map .str)] = some (.lst ((sortS xs).map .str), true) := by
  show (match dInts (xs.map .str) with
    | some ns => some (EV.D.lst ((sortI ns).map .int), true)
    | none => match dStrs (xs.map .str) with
      | some zs => if zs.length < 64 then some (.lst ((sortS zs).map .str), true) else none
      | none => none) = _
  cases xs with
  | nil => rfl
  | cons x xs =>
    have e : dInts ((x :: xs).map .str) = none := rfl
    rw [e, dStrs_map]
    show (if (x :: xs).length < 64 then some (EV.D.lst ((sortS (x :: xs)).map .str), true) else none) = _
    rw [if_pos h]
/-- the names of a thing that is one of names -/
def strsOf (ds : List EV.D) : List Str := (dStrs ds).getD []
def isNs (ds : List EV.D) : Bool := ds.all (fun d => spell d 6) && decide ((dedS (strsOf ds)).length = ds.length)
theorem lc_names {n : Nat} {d : EV.D} {ds : List EV.D} {c : CL} (hd : d = .lst ds ∨ d = .tup ds) (h1 : ds.length ≤ 50) (h2 : ∀ d ∈ ds, Th n d) :
    mLc (iAny (mOf (mVar 0))) (gN 1) tYesM (mFn 1 f_is_name (aCons (mOf (mVar 1)) aNil)) [1] [.fz d, .no] c = .ok (.lst (ds.map fun d => .bool (spell d 6)), true) [.fz d, .no] c := by
  have hm : iAny (mOf (mVar 0)) [.fz d, .no] c = .ok (ds.length + 1, lkL ds) [.fz d, .no] c := by
    rcases hd with rfl | rfl
    · exact iAny_l (by simp only [b_ok, b_bad, b_ex, f_ok, f_bad, f_ex, n_nx, n_rt, n_bk, n_ct, n_ex, n_bad, l_nx, l_rt, l_bk, l_ct, l_ex, l_bad, sNx_e, sSeq_e, sBk_e, sCt_e, sRetN_e, sExp_e, kExp_e, sRet_e, kRet_e, sIf_e, kIf_t, kIf_f, sSet_e, kSet_e, svOf_t, svOf_f, sSetC_e, kCell_e, sAsg_e, kG1_e, oF_s, oF_n, gN_e, gT_e, gsNil_e, gsCons_e, sPar_e, kPar1_e, kPar2_e, sPar3_e, kPr1_e, kPr2_e, kPr3_e, sPut_e, kPut1_e, kPut2_e, isLst_l, kPut_e, kPt_e, kPu_e, plGet_e, pG_o, pG_c, plS_e, pS_o, pS_f, plC_e, pC_o, pC_c, mFr_e, kFz_e, mVar_e, kVar_f, kVar_o, mMov_e, kMov_f, kMov_o, mBw_e, kBw_f, kBw_o, mCon_e, mOf_e, kOf_e, o2_e, m2_e, k2a_e, k2b_e, kDB_s, kDB_n, fl_e, m1_e, k1a_e, get_dv, get_bw, sv_f, sv_o, sv_n, de_cell, de_non, de_bool, de_int, de_str, de_fn, de_rol, de_lst, de_tup, de_dct, de_dtt, de_ins, mCB_e, kCB_e, getAll_n, getAll_c, g2_e, mVals_e, kVl_e, vals_n, vals_c, aNil_e, aCons_e, kC1_e, kC2_e, mT_e, kTb_e, tAnd_e, kAn_t, kAn_f, tOr_e, kOr_t, kOr_f, tNot_e, kNt_e, mTru_e, kTr_e, kO_s, dTru_b, mIf_e, kIfe_t, kIfe_f, mAnd_e, kAnd_t, kAnd_f, mOr_e, kOr2_t, kOr2_f, mNot_e, kNot2_e, kFr_o, mFn_e, kF1_e, kFn_e, mFnK_e, kK1_e, v2_e, kK2_e, mMut_e, kMu_e, mMut0_e, oM_e, kMut_e, pNone_e, pSome_e, kPs_e, mCut_e, kCt1_e, kCt2_e, oC3_e, kCt3_e, fM_e, endF_n, endF_r, dAdd_i, dAdd_s, dAdd_l, dAdd_t, dSub_i, dMul_i, dDiv_i, dMod_i, dPow_i, dLt_i, dLe_i, dGt_i, dGe_i, dLt_s, dEq_i, dEq_b, dEq_s, dNe_i, dNe_b, dNe_s, dInt_i, dAbs_i, dLen_l, dLen_r, dLen_t, dLen_s, dIx_l, dIx_r, dIx_t, dList_l, dList_r, dList_t, dTuple_l, dTuple_t, dDispL_e, dDispT_e, dIsN_n, dNotN_n, dIsN_bool, dNotN_bool, dIsN_int, dNotN_int, dIsN_str, dNotN_str, dIsN_lst, dNotN_lst, dIsN_tup, dNotN_tup, dIsi_non, dIsiT_non, dIsi_bool, dIsiT_bool, dIsi_int, dIsiT_int, dIsi_str, dIsiT_str, dIsi_lst, dIsiT_lst, dIsi_rol, dIsiT_rol, dIsi_tup, dIsiT_tup, mChain_e, kH1_e, kH2_e, kH3_t, kH3_f, kH4_e, mM1_e, kM1_e, kM2_e, kM3_e, mJs_n, mJs_c, kJ_e, dFmt_s, dNeg_i, dDivmod_e, dMax2_e, dMin2_e, dCut_l, dCut_r, dCut_t, dCut_s, dPop_e, fApp_e, List.getElem?_cons_zero, List.getElem?_cons_succ, List.set_cons_zero, List.set_cons_succ, Option.bind_some, Option.bind_none, Option.map_some, Option.map_none, List.map_cons, List.map_nil, List.length_cons, List.length_nil, List.replicate, List.cons_append, List.nil_append, List.set_set, if_true, if_false, ite_true, ite_false, reduceIte, Nat.reduceAdd, Nat.reduceSub, Nat.zero_add, Nat.add_zero, Bool.not_true, Bool.not_false, decide_true, decide_false, Bool.true_and, Bool.and_true, Bool.false_and, Bool.and_false, Bool.or_true, Bool.true_or, Bool.or_false, Bool.false_or, eq_self])
    · exact iAny_t (by simp only [b_ok, b_bad, b_ex, f_ok, f_bad, f_ex, n_nx, n_rt, n_bk, n_ct, n_ex, n_bad, l_nx, l_rt, l_bk, l_ct, l_ex, l_bad, sNx_e, sSeq_e, sBk_e, sCt_e, sRetN_e, sExp_e, kExp_e, sRet_e, kRet_e, sIf_e, kIf_t, kIf_f, sSet_e, kSet_e, svOf_t, svOf_f, sSetC_e, kCell_e, sAsg_e, kG1_e, oF_s, oF_n, gN_e, gT_e, gsNil_e, gsCons_e, sPar_e, kPar1_e, kPar2_e, sPar3_e, kPr1_e, kPr2_e, kPr3_e, sPut_e, kPut1_e, kPut2_e, isLst_l, kPut_e, kPt_e, kPu_e, plGet_e, pG_o, pG_c, plS_e, pS_o, pS_f, plC_e, pC_o, pC_c, mFr_e, kFz_e, mVar_e, kVar_f, kVar_o, mMov_e, kMov_f, kMov_o, mBw_e, kBw_f, kBw_o, mCon_e, mOf_e, kOf_e, o2_e, m2_e, k2a_e, k2b_e, kDB_s, kDB_n, fl_e, m1_e, k1a_e, get_dv, get_bw, sv_f, sv_o, sv_n, de_cell, de_non, de_bool, de_int, de_str, de_fn, de_rol, de_lst, de_tup, de_dct, de_dtt, de_ins, mCB_e, kCB_e, getAll_n, getAll_c, g2_e, mVals_e, kVl_e, vals_n, vals_c, aNil_e, aCons_e, kC1_e, kC2_e, mT_e, kTb_e, tAnd_e, kAn_t, kAn_f, tOr_e, kOr_t, kOr_f, tNot_e, kNt_e, mTru_e, kTr_e, kO_s, dTru_b, mIf_e, kIfe_t, kIfe_f, mAnd_e, kAnd_t, kAnd_f, mOr_e, kOr2_t, kOr2_f, mNot_e, kNot2_e, kFr_o, mFn_e, kF1_e, kFn_e, mFnK_e, kK1_e, v2_e, kK2_e, mMut_e, kMu_e, mMut0_e, oM_e, kMut_e, pNone_e, pSome_e, kPs_e, mCut_e, kCt1_e, kCt2_e, oC3_e, kCt3_e, fM_e, endF_n, endF_r, dAdd_i, dAdd_s, dAdd_l, dAdd_t, dSub_i, dMul_i, dDiv_i, dMod_i, dPow_i, dLt_i, dLe_i, dGt_i, dGe_i, dLt_s, dEq_i, dEq_b, dEq_s, dNe_i, dNe_b, dNe_s, dInt_i, dAbs_i, dLen_l, dLen_r, dLen_t, dLen_s, dIx_l, dIx_r, dIx_t, dList_l, dList_r, dList_t, dTuple_l, dTuple_t, dDispL_e, dDispT_e, dIsN_n, dNotN_n, dIsN_bool, dNotN_bool, dIsN_int, dNotN_int, dIsN_str, dNotN_str, dIsN_lst, dNotN_lst, dIsN_tup, dNotN_tup, dIsi_non, dIsiT_non, dIsi_bool, dIsiT_bool, dIsi_int, dIsiT_int, dIsi_str, dIsiT_str, dIsi_lst, dIsiT_lst, dIsi_rol, dIsiT_rol, dIsi_tup, dIsiT_tup, mChain_e, kH1_e, kH2_e, kH3_t, kH3_f, kH4_e, mM1_e, kM1_e, kM2_e, kM3_e, mJs_n, mJs_c, kJ_e, dFmt_s, dNeg_i, dDivmod_e, dMax2_e, dMin2_e, dCut_l, dCut_r, dCut_t, dCut_s, dPop_e, fApp_e, List.getElem?_cons_zero, List.getElem?_cons_succ, List.set_cons_zero, List.set_cons_succ, Option.bind_some, Option.bind_none, Option.map_some, Option.map_none, List.map_cons, List.map_nil, List.length_cons, List.length_nil, List.replicate, List.cons_append, List.nil_append, List.set_set, if_true, if_false, ite_true, ite_false, reduceIte, Nat.reduceAdd, Nat.reduceSub, Nat.zero_add, Nat.add_zero, Bool.not_true, Bool.not_false, decide_true, decide_false, Bool.true_and, Bool.and_true, Bool.false_and, Bool.and_false, Bool.or_true, Bool.true_or, Bool.or_false, Bool.false_or, eq_self])
  have := mLc_pure (s := [.fz d, .no]) (s1 := [.fz d, .no]) (c := c) (c1 := c) (mi := iAny (mOf (mVar 0))) (g := gN 1) (t := tYesM) (m := mFn 1 f_is_name (aCons (mOf (mVar 1)) aNil)) (vs := [1]) (p := fun _ => true) (q := fun d => .bool (spell d 6)) hm (by
    have : sizeLine = 16777216 := sizeLine_eq
    omega) fun e he => ⟨_, rfl, rfl, rfl, fun _ => ⟨false, by
      have := name_ok (c := c) (h2 e he)
      simp only [swipe, this, b_ok, b_bad, b_ex, f_ok, f_bad, f_ex, n_nx, n_rt, n_bk, n_ct, n_ex, n_bad, l_nx, l_rt, l_bk, l_ct, l_ex, l_bad, sNx_e, sSeq_e, sBk_e, sCt_e, sRetN_e, sExp_e, kExp_e, sRet_e, kRet_e, sIf_e, kIf_t, kIf_f, sSet_e, kSet_e, svOf_t, svOf_f, sSetC_e, kCell_e, sAsg_e, kG1_e, oF_s, oF_n, gN_e, gT_e, gsNil_e, gsCons_e, sPar_e, kPar1_e, kPar2_e, sPar3_e, kPr1_e, kPr2_e, kPr3_e, sPut_e, kPut1_e, kPut2_e, isLst_l, kPut_e, kPt_e, kPu_e, plGet_e, pG_o, pG_c, plS_e, pS_o, pS_f, plC_e, pC_o, pC_c, mFr_e, kFz_e, mVar_e, kVar_f, kVar_o, mMov_e, kMov_f, kMov_o, mBw_e, kBw_f, kBw_o, mCon_e, mOf_e, kOf_e, o2_e, m2_e, k2a_e, k2b_e, kDB_s, kDB_n, fl_e, m1_e, k1a_e, get_dv, get_bw, sv_f, sv_o, sv_n, de_cell, de_non, de_bool, de_int, de_str, de_fn, de_rol, de_lst, de_tup, de_dct, de_dtt, de_ins, mCB_e, kCB_e, getAll_n, getAll_c, g2_e, mVals_e, kVl_e, vals_n, vals_c, aNil_e, aCons_e, kC1_e, kC2_e, mT_e, kTb_e, tAnd_e, kAn_t, kAn_f, tOr_e, kOr_t, kOr_f, tNot_e, kNt_e, mTru_e, kTr_e, kO_s, dTru_b, mIf_e, kIfe_t, kIfe_f, mAnd_e, kAnd_t, kAnd_f, mOr_e, kOr2_t, kOr2_f, mNot_e, kNot2_e, kFr_o, mFn_e, kF1_e, kFn_e, mFnK_e, kK1_e, v2_e, kK2_e, mMut_e, kMu_e, mMut0_e, oM_e, kMut_e, pNone_e, pSome_e, kPs_e, mCut_e, kCt1_e, kCt2_e, oC3_e, kCt3_e, fM_e, endF_n, endF_r, dAdd_i, dAdd_s, dAdd_l, dAdd_t, dSub_i, dMul_i, dDiv_i, dMod_i, dPow_i, dLt_i, dLe_i, dGt_i, dGe_i, dLt_s, dEq_i, dEq_b, dEq_s, dNe_i, dNe_b, dNe_s, dInt_i, dAbs_i, dLen_l, dLen_r, dLen_t, dLen_s, dIx_l, dIx_r, dIx_t, dList_l, dList_r, dList_t, dTuple_l, dTuple_t, dDispL_e, dDispT_e, dIsN_n, dNotN_n, dIsN_bool, dNotN_bool, dIsN_int, dNotN_int, dIsN_str, dNotN_str, dIsN_lst, dNotN_lst, dIsN_tup, dNotN_tup, dIsi_non, dIsiT_non, dIsi_bool, dIsiT_bool, dIsi_int, dIsiT_int, dIsi_str, dIsiT_str, dIsi_lst, dIsiT_lst, dIsi_rol, dIsiT_rol, dIsi_tup, dIsiT_tup, mChain_e, kH1_e, kH2_e, kH3_t, kH3_f, kH4_e, mM1_e, kM1_e, kM2_e, kM3_e, mJs_n, mJs_c, kJ_e, dFmt_s, dNeg_i, dDivmod_e, dMax2_e, dMin2_e, dCut_l, dCut_r, dCut_t, dCut_s, dPop_e, fApp_e, List.getElem?_cons_zero, List.getElem?_cons_succ, List.set_cons_zero, List.set_cons_succ, Option.bind_some, Option.bind_none, Option.map_some, Option.map_none, List.map_cons, List.map_nil, List.length_cons, List.length_nil, List.replicate, List.cons_append, List.nil_append, List.set_set, if_true, if_false, ite_true, ite_false, reduceIte, Nat.reduceAdd, Nat.reduceSub, Nat.zero_add, Nat.add_zero, Bool.not_true, Bool.not_false, decide_true, decide_false, Bool.true_and, Bool.and_true, Bool.false_and, Bool.and_false, Bool.or_true, Bool.true_or, Bool.or_false, Bool.false_or, eq_self]⟩⟩
  rw [this, List.filter_eq_self.mpr fun _ _ => rfl]
  rfl
theorem names_of {ds : List EV.D} {n : Nat} (h2 : ∀ d ∈ ds, Th n d) (ha : ds.all (fun d => spell d 6) = true) : ∃ xs : List Str, ds = xs.map .str ∧ (∀ x ∈ xs, Asc x) ∧ strsOf ds = xs := by
  obtain ⟨xs, e, hx⟩ := names_strs h2 ha
  refine ⟨xs, e, hx, ?_⟩
  unfold strsOf
  rw [e, dStrs_map]
  rfl
theorem int_eq {a b : Nat} : decide ((a : Int) = (b : Int)) = decide (a = b) := by
  by_cases h : a = b
  · simp [h]
  · rw [decide_eq_false h, decide_eq_false (by omega)]
theorem is_names_ok {n : Nat} {d : EV.D} {ds : List EV.D} {c : CL} (hd : d = .lst ds ∨ d = .tup ds) (h1 : ds.length ≤ 50) (h2 : ∀ d ∈ ds, Th n d) : f_is_names [d] c = .ok (.bool (isNs ds), false) [] c := by
  have lc := lc_names (c := c) hd h1 h2
  cases ha : ds.all (fun d => spell d 6) with
  | false =>
    have e : isNs ds = false := by unfold isNs; rw [ha]; rfl
    rw [e]
    rcases hd with rfl | rfl
    · simp only [f_is_names, m_is_names, tyIs, List.any_cons, List.any_nil, lc, all_map, ha, b_ok, b_bad, b_ex, f_ok, f_bad, f_ex, n_nx, n_rt, n_bk, n_ct, n_ex, n_bad, l_nx, l_rt, l_bk, l_ct, l_ex, l_bad, sNx_e, sSeq_e, sBk_e, sCt_e, sRetN_e, sExp_e, kExp_e, sRet_e, kRet_e, sIf_e, kIf_t, kIf_f, sSet_e, kSet_e, svOf_t, svOf_f, sSetC_e, kCell_e, sAsg_e, kG1_e, oF_s, oF_n, gN_e, gT_e, gsNil_e, gsCons_e, sPar_e, kPar1_e, kPar2_e, sPar3_e, kPr1_e, kPr2_e, kPr3_e, sPut_e, kPut1_e, kPut2_e, isLst_l, kPut_e, kPt_e, kPu_e, plGet_e, pG_o, pG_c, plS_e, pS_o, pS_f, plC_e, pC_o, pC_c, mFr_e, kFz_e, mVar_e, kVar_f, kVar_o, mMov_e, kMov_f, kMov_o, mBw_e, kBw_f, kBw_o, mCon_e, mOf_e, kOf_e, o2_e, m2_e, k2a_e, k2b_e, kDB_s, kDB_n, fl_e, m1_e, k1a_e, get_dv, get_bw, sv_f, sv_o, sv_n, de_cell, de_non, de_bool, de_int, de_str, de_fn, de_rol, de_lst, de_tup, de_dct, de_dtt, de_ins, mCB_e, kCB_e, getAll_n, getAll_c, g2_e, mVals_e, kVl_e, vals_n, vals_c, aNil_e, aCons_e, kC1_e, kC2_e, mT_e, kTb_e, tAnd_e, kAn_t, kAn_f, tOr_e, kOr_t, kOr_f, tNot_e, kNt_e, mTru_e, kTr_e, kO_s, dTru_b, mIf_e, kIfe_t, kIfe_f, mAnd_e, kAnd_t, kAnd_f, mOr_e, kOr2_t, kOr2_f, mNot_e, kNot2_e, kFr_o, mFn_e, kF1_e, kFn_e, mFnK_e, kK1_e, v2_e, kK2_e, mMut_e, kMu_e, mMut0_e, oM_e, kMut_e, pNone_e, pSome_e, kPs_e, mCut_e, kCt1_e, kCt2_e, oC3_e, kCt3_e, fM_e, endF_n, endF_r, dAdd_i, dAdd_s, dAdd_l, dAdd_t, dSub_i, dMul_i, dDiv_i, dMod_i, dPow_i, dLt_i, dLe_i, dGt_i, dGe_i, dLt_s, dEq_i, dEq_b, dEq_s, dNe_i, dNe_b, dNe_s, dInt_i, dAbs_i, dLen_l, dLen_r, dLen_t, dLen_s, dIx_l, dIx_r, dIx_t, dList_l, dList_r, dList_t, dTuple_l, dTuple_t, dDispL_e, dDispT_e, dIsN_n, dNotN_n, dIsN_bool, dNotN_bool, dIsN_int, dNotN_int, dIsN_str, dNotN_str, dIsN_lst, dNotN_lst, dIsN_tup, dNotN_tup, dIsi_non, dIsiT_non, dIsi_bool, dIsiT_bool, dIsi_int, dIsiT_int, dIsi_str, dIsiT_str, dIsi_lst, dIsiT_lst, dIsi_rol, dIsiT_rol, dIsi_tup, dIsiT_tup, mChain_e, kH1_e, kH2_e, kH3_t, kH3_f, kH4_e, mM1_e, kM1_e, kM2_e, kM3_e, mJs_n, mJs_c, kJ_e, dFmt_s, dNeg_i, dDivmod_e, dMax2_e, dMin2_e, dCut_l, dCut_r, dCut_t, dCut_s, dPop_e, fApp_e, List.getElem?_cons_zero, List.getElem?_cons_succ, List.set_cons_zero, List.set_cons_succ, Option.bind_some, Option.bind_none, Option.map_some, Option.map_none, List.map_cons, List.map_nil, List.length_cons, List.length_nil, List.replicate, List.cons_append, List.nil_append, List.set_set, if_true, if_false, ite_true, ite_false, reduceIte, Nat.reduceAdd, Nat.reduceSub, Nat.zero_add, Nat.add_zero, Bool.not_true, Bool.not_false, decide_true, decide_false, Bool.true_and, Bool.and_true, Bool.false_and, Bool.and_false, Bool.or_true, Bool.true_or, Bool.or_false, Bool.false_or, eq_self]
    · simp only [f_is_names, m_is_names, tyIs, List.any_cons, List.any_nil, lc, all_map, ha, b_ok, b_bad, b_ex, f_ok, f_bad, f_ex, n_nx, n_rt, n_bk, n_ct, n_ex, n_bad, l_nx, l_rt, l_bk, l_ct, l_ex, l_bad, sNx_e, sSeq_e, sBk_e, sCt_e, sRetN_e, sExp_e, kExp_e, sRet_e, kRet_e, sIf_e, kIf_t, kIf_f, sSet_e, kSet_e, svOf_t, svOf_f, sSetC_e, kCell_e, sAsg_e, kG1_e, oF_s, oF_n, gN_e, gT_e, gsNil_e, gsCons_e, sPar_e, kPar1_e, kPar2_e, sPar3_e, kPr1_e, kPr2_e, kPr3_e, sPut_e, kPut1_e, kPut2_e, isLst_l, kPut_e, kPt_e, kPu_e, plGet_e, pG_o, pG_c, plS_e, pS_o, pS_f, plC_e, pC_o, pC_c, mFr_e, kFz_e, mVar_e, kVar_f, kVar_o, mMov_e, kMov_f, kMov_o, mBw_e, kBw_f, kBw_o, mCon_e, mOf_e, kOf_e, o2_e, m2_e, k2a_e, k2b_e, kDB_s, kDB_n, fl_e, m1_e, k1a_e, get_dv, get_bw, sv_f, sv_o, sv_n, de_cell, de_non, de_bool, de_int, de_str, de_fn, de_rol, de_lst, de_tup, de_dct, de_dtt, de_ins, mCB_e, kCB_e, getAll_n, getAll_c, g2_e, mVals_e, kVl_e, vals_n, vals_c, aNil_e, aCons_e, kC1_e, kC2_e, mT_e, kTb_e, tAnd_e, kAn_t, kAn_f, tOr_e, kOr_t, kOr_f, tNot_e, kNt_e, mTru_e, kTr_e, kO_s, dTru_b, mIf_e, kIfe_t, kIfe_f, mAnd_e, kAnd_t, kAnd_f, mOr_e, kOr2_t, kOr2_f, mNot_e, kNot2_e, kFr_o, mFn_e, kF1_e, kFn_e, mFnK_e, kK1_e, v2_e, kK2_e, mMut_e, kMu_e, mMut0_e, oM_e, kMut_e, pNone_e, pSome_e, kPs_e, mCut_e, kCt1_e, kCt2_e, oC3_e, kCt3_e, fM_e, endF_n, endF_r, dAdd_i, dAdd_s, dAdd_l, dAdd_t, dSub_i, dMul_i, dDiv_i, dMod_i, dPow_i, dLt_i, dLe_i, dGt_i, dGe_i, dLt_s, dEq_i, dEq_b, dEq_s, dNe_i, dNe_b, dNe_s, dInt_i, dAbs_i, dLen_l, dLen_r, dLen_t, dLen_s, dIx_l, dIx_r, dIx_t, dList_l, dList_r, dList_t, dTuple_l, dTuple_t, dDispL_e, dDispT_e, dIsN_n, dNotN_n, dIsN_bool, dNotN_bool, dIsN_int, dNotN_int, dIsN_str, dNotN_str, dIsN_lst, dNotN_lst, dIsN_tup, dNotN_tup, dIsi_non, dIsiT_non, dIsi_bool, dIsiT_bool, dIsi_int, dIsiT_int, dIsi_str, dIsiT_str, dIsi_lst, dIsiT_lst, dIsi_rol, dIsiT_rol, dIsi_tup, dIsiT_tup, mChain_e, kH1_e, kH2_e, kH3_t, kH3_f, kH4_e, mM1_e, kM1_e, kM2_e, kM3_e, mJs_n, mJs_c, kJ_e, dFmt_s, dNeg_i, dDivmod_e, dMax2_e, dMin2_e, dCut_l, dCut_r, dCut_t, dCut_s, dPop_e, fApp_e, List.getElem?_cons_zero, List.getElem?_cons_succ, List.set_cons_zero, List.set_cons_succ, Option.bind_some, Option.bind_none, Option.map_some, Option.map_none, List.map_cons, List.map_nil, List.length_cons, List.length_nil, List.replicate, List.cons_append, List.nil_append, List.set_set, if_true, if_false, ite_true, ite_false, reduceIte, Nat.reduceAdd, Nat.reduceSub, Nat.zero_add, Nat.add_zero, Bool.not_true, Bool.not_false, decide_true, decide_false, Bool.true_and, Bool.and_true, Bool.false_and, Bool.and_false, Bool.or_true, Bool.true_or, Bool.or_false, Bool.false_or, eq_self]
  | true =>
    obtain ⟨xs, rfl, hx, e⟩ := names_of h2 ha
    have hl : xs.length < 4000 := by rw [List.length_map] at h1; omega
    have ens : isNs (xs.map .str) = decide ((dedS xs).length = xs.length) := by unfold isNs; rw [ha, e, List.length_map]; rfl
    rw [ens]
    rcases hd with rfl | rfl
    · simp only [f_is_names, m_is_names, tyIs, List.any_cons, List.any_nil, lc, all_map, ha, dLenSet_l hl, List.length_map, int_eq, b_ok, b_bad, b_ex, f_ok, f_bad, f_ex, n_nx, n_rt, n_bk, n_ct, n_ex, n_bad, l_nx, l_rt, l_bk, l_ct, l_ex, l_bad, sNx_e, sSeq_e, sBk_e, sCt_e, sRetN_e, sExp_e, kExp_e, sRet_e, kRet_e, sIf_e, kIf_t, kIf_f, sSet_e, kSet_e, svOf_t, svOf_f, sSetC_e, kCell_e, sAsg_e, kG1_e, oF_s, oF_n, gN_e, gT_e, gsNil_e, gsCons_e, sPar_e, kPar1_e, kPar2_e, sPar3_e, kPr1_e, kPr2_e, kPr3_e, sPut_e, kPut1_e, kPut2_e, isLst_l, kPut_e, kPt_e, kPu_e, plGet_e, pG_o, pG_c, plS_e, pS_o, pS_f, plC_e, pC_o, pC_c, mFr_e, kFz_e, mVar_e, kVar_f, kVar_o, mMov_e, kMov_f, kMov_o, mBw_e, kBw_f, kBw_o, mCon_e, mOf_e, kOf_e, o2_e, m2_e, k2a_e, k2b_e, kDB_s, kDB_n, fl_e, m1_e, k1a_e, get_dv, get_bw, sv_f, sv_o, sv_n, de_cell, de_non, de_bool, de_int, de_str, de_fn, de_rol, de_lst, de_tup, de_dct, de_dtt, de_ins, mCB_e, kCB_e, getAll_n, getAll_c, g2_e, mVals_e, kVl_e, vals_n, vals_c, aNil_e, aCons_e, kC1_e, kC2_e, mT_e, kTb_e, tAnd_e, kAn_t, kAn_f, tOr_e, kOr_t, kOr_f, tNot_e, kNt_e, mTru_e, kTr_e, kO_s, dTru_b, mIf_e, kIfe_t, kIfe_f, mAnd_e, kAnd_t, kAnd_f, mOr_e, kOr2_t, kOr2_f, mNot_e, kNot2_e, kFr_o, mFn_e, kF1_e, kFn_e, mFnK_e, kK1_e, v2_e, kK2_e, mMut_e, kMu_e, mMut0_e, oM_e, kMut_e, pNone_e, pSome_e, kPs_e, mCut_e, kCt1_e, kCt2_e, oC3_e, kCt3_e, fM_e, endF_n, endF_r, dAdd_i, dAdd_s, dAdd_l, dAdd_t, dSub_i, dMul_i, dDiv_i, dMod_i, dPow_i, dLt_i, dLe_i, dGt_i, dGe_i, dLt_s, dEq_i, dEq_b, dEq_s, dNe_i, dNe_b, dNe_s, dInt_i, dAbs_i, dLen_l, dLen_r, dLen_t, dLen_s, dIx_l, dIx_r, dIx_t, dList_l, dList_r, dList_t, dTuple_l, dTuple_t, dDispL_e, dDispT_e, dIsN_n, dNotN_n, dIsN_bool, dNotN_bool, dIsN_int, dNotN_int, dIsN_str, dNotN_str, dIsN_lst, dNotN_lst, dIsN_tup, dNotN_tup, dIsi_non, dIsiT_non, dIsi_bool, dIsiT_bool, dIsi_int, dIsiT_int, dIsi_str, dIsiT_str, dIsi_lst, dIsiT_lst, dIsi_rol, dIsiT_rol, dIsi_tup, dIsiT_tup, mChain_e, kH1_e, kH2_e, kH3_t, kH3_f, kH4_e, mM1_e, kM1_e, kM2_e, kM3_e, mJs_n, mJs_c, kJ_e, dFmt_s, dNeg_i, dDivmod_e, dMax2_e, dMin2_e, dCut_l, dCut_r, dCut_t, dCut_s, dPop_e, fApp_e, List.getElem?_cons_zero, List.getElem?_cons_succ, List.set_cons_zero, List.set_cons_succ, Option.bind_some, Option.bind_none, Option.map_some, Option.map_none, List.map_cons, List.map_nil, List.length_cons, List.length_nil, List.replicate, List.cons_append, List.nil_append, List.set_set, if_true, if_false, ite_true, ite_false, reduceIte, Nat.reduceAdd, Nat.reduceSub, Nat.zero_add, Nat.add_zero, Bool.not_true, Bool.not_false, decide_true, decide_false, Bool.true_and, Bool.and_true, Bool.false_and, Bool.and_false, Bool.or_true, Bool.true_or, Bool.or_false, Bool.false_or, eq_self]
    · simp only [f_is_names, m_is_names, tyIs, List.any_cons, List.any_nil, lc, all_map, ha, dLenSet_t hl, List.length_map, int_eq, b_ok, b_bad, b_ex, f_ok, f_bad, f_ex, n_nx, n_rt, n_bk, n_ct, n_ex, n_bad, l_nx, l_rt, l_bk, l_ct, l_ex, l_bad, sNx_e, sSeq_e, sBk_e, sCt_e, sRetN_e, sExp_e, kExp_e, sRet_e, kRet_e, sIf_e, kIf_t, kIf_f, sSet_e, kSet_e, svOf_t, svOf_f, sSetC_e, kCell_e, sAsg_e, kG1_e, oF_s, oF_n, gN_e, gT_e, gsNil_e, gsCons_e, sPar_e, kPar1_e, kPar2_e, sPar3_e, kPr1_e, kPr2_e, kPr3_e, sPut_e, kPut1_e, kPut2_e, isLst_l, kPut_e, kPt_e, kPu_e, plGet_e, pG_o, pG_c, plS_e, pS_o, pS_f, plC_e, pC_o, pC_c, mFr_e, kFz_e, mVar_e, kVar_f, kVar_o, mMov_e, kMov_f, kMov_o, mBw_e, kBw_f, kBw_o, mCon_e, mOf_e, kOf_e, o2_e, m2_e, k2a_e, k2b_e, kDB_s, kDB_n, fl_e, m1_e, k1a_e, get_dv, get_bw, sv_f, sv_o, sv_n, de_cell, de_non, de_bool, de_int, de_str, de_fn, de_rol, de_lst, de_tup, de_dct, de_dtt, de_ins, mCB_e, kCB_e, getAll_n, getAll_c, g2_e, mVals_e, kVl_e, vals_n, vals_c, aNil_e, aCons_e, kC1_e, kC2_e, mT_e, kTb_e, tAnd_e, kAn_t, kAn_f, tOr_e, kOr_t, kOr_f, tNot_e, kNt_e, mTru_e, kTr_e, kO_s, dTru_b, mIf_e, kIfe_t, kIfe_f, mAnd_e, kAnd_t, kAnd_f, mOr_e, kOr2_t, kOr2_f, mNot_e, kNot2_e, kFr_o, mFn_e, kF1_e, kFn_e, mFnK_e, kK1_e, v2_e, kK2_e, mMut_e, kMu_e, mMut0_e, oM_e, kMut_e, pNone_e, pSome_e, kPs_e, mCut_e, kCt1_e, kCt2_e, oC3_e, kCt3_e, fM_e, endF_n, endF_r, dAdd_i, dAdd_s, dAdd_l, dAdd_t, dSub_i, dMul_i, dDiv_i, dMod_i, dPow_i, dLt_i, dLe_i, dGt_i, dGe_i, dLt_s, dEq_i, dEq_b, dEq_s, dNe_i, dNe_b, dNe_s, dInt_i, dAbs_i, dLen_l, dLen_r, dLen_t, dLen_s, dIx_l, dIx_r, dIx_t, dList_l, dList_r, dList_t, dTuple_l, dTuple_t, dDispL_e, dDispT_e, dIsN_n, dNotN_n, dIsN_bool, dNotN_bool, dIsN_int, dNotN_int, dIsN_str, dNotN_str, dIsN_lst, dNotN_lst, dIsN_tup, dNotN_tup, dIsi_non, dIsiT_non, dIsi_bool, dIsiT_bool, dIsi_int, dIsiT_int, dIsi_str, dIsiT_str, dIsi_lst, dIsiT_lst, dIsi_rol, dIsiT_rol, dIsi_tup, dIsiT_tup, mChain_e, kH1_e, kH2_e, kH3_t, kH3_f, kH4_e, mM1_e, kM1_e, kM2_e, kM3_e, mJs_n, mJs_c, kJ_e, dFmt_s, dNeg_i, dDivmod_e, dMax2_e, dMin2_e, dCut_l, dCut_r, dCut_t, dCut_s, dPop_e, fApp_e, List.getElem?_cons_zero, List.getElem?_cons_succ, List.set_cons_zero, List.set_cons_succ, Option.bind_some, Option.bind_none, Option.map_some, Option.map_none, List.map_cons, List.map_nil, List.length_cons, List.length_nil, List.replicate, List.cons_append, List.nil_append, List.set_set, if_true, if_false, ite_true, ite_false, reduceIte, Nat.reduceAdd, Nat.reduceSub, Nat.zero_add, Nat.add_zero, Bool.not_true, Bool.not_false, decide_true, decide_false, Bool.true_and, Bool.and_true, Bool.false_and, Bool.and_false, Bool.or_true, Bool.true_or, Bool.or_false, Bool.false_or, eq_self]
end KW

set_option Elab.async false
set_option linter.all false
set_option maxRecDepth 100000
namespace KW
open PySem PySem.Spec L2 EV
open PyProof.Rows hiding St
/-! ### groups -/
theorem dedS_sub : ∀ {xs : List Str} {x : Str}, x ∈ dedS xs → x ∈ xs
  | y :: ys, x, h => by
    unfold dedS at h
    by_cases e : y ∈ ys
    · rw [if_pos e] at h
      exact List.mem_cons_of_mem _ (dedS_sub h)
    · rw [if_neg e] at h
      rcases List.mem_cons.mp h with h | h
      · rw [h]; exact List.mem_cons_self ..
      · exact List.mem_cons_of_mem _ (dedS_sub h)
theorem dedS_le : ∀ xs : List Str, (dedS xs).length ≤ xs.length
  | [] => Nat.le_refl _
  | y :: ys => by
    unfold dedS
    have := dedS_le ys
    split
    · simp only [List.length_cons]; omega
    · simp only [List.length_cons]; omega
theorem dedS_nodup : ∀ xs : List Str, decide ((dedS xs).length = xs.length) = decide xs.Nodup
  | [] => by simp [dedS]
  | y :: ys => by
    have ih := dedS_nodup ys
    have hle := dedS_le ys
    unfold dedS
    by_cases e : y ∈ ys
    · rw [if_pos e]
      rw [decide_eq_false (by simp only [List.length_cons]; omega), decide_eq_false (by simp [e])]
    · rw [if_neg e]
      have : (y :: ys).Nodup ↔ ys.Nodup := by simp [e]
      simp only [List.length_cons, Nat.add_right_cancel_iff, this]
      exact ih
/-- rising, each below the next one -/
def ltS (x y : Str) : Bool := decide (x.cps.toList < y.cps.toList)
def riseS : List Str → Bool
  | x :: y :: r => ltS x y && riseS (y :: r)
  | _ => true
theorem ltS_trans {a b c : Str} (h : ltS a b = true) (k : ltS b c = true) : ltS a c = true := by
  unfold ltS at *
  exact decide_eq_true (List.lt_trans (of_decide_eq_true h) (of_decide_eq_true k))
theorem riseS_pair : ∀ {xs : List Str}, riseS xs = true ↔ xs.Pairwise (fun a b => ltS a b = true)
  | [] => by simp [riseS]
  | [x] => by simp [riseS]
  | x :: y :: r => by
    have ih := riseS_pair (xs := y :: r)
    show (ltS x y && riseS (y :: r)) = true ↔ _
    rw [Bool.and_eq_true, ih]
    constructor
    · rintro ⟨h1, h2⟩
      refine List.pairwise_cons.mpr ⟨fun z hz => ?_, h2⟩
      rcases List.mem_cons.mp hz with rfl | hz
      · exact h1
      · exact ltS_trans h1 ((List.pairwise_cons.mp h2).1 z hz)
    · intro h
      obtain ⟨h1, h2⟩ := List.pairwise_cons.mp h
      exact ⟨h1 y (List.mem_cons_self ..), h2⟩
theorem lt_le {a b : Str} : ltS a b = true ↔ leS a b = true ∧ a ≠ b := by
  constructor
  · intro h
    have h' := of_decide_eq_true h
    refine ⟨leS_iff.mpr fun k => ?_, fun e => ?_⟩
    · exact List.lt_irrefl _ (List.lt_trans h' k)
    · subst e
      exact List.lt_irrefl _ h'
  · rintro ⟨h1, h2⟩
    cases e : ltS a b with
    | true => rfl
    | false =>
      exfalso
      have e' : ¬ a.cps.toList < b.cps.toList := of_decide_eq_false e
      exact h2 (leS_anti a b h1 (leS_iff.mpr e'))
theorem sort_iff {xs : List Str} : xs = sortS xs ↔ xs.Pairwise (fun a b => leS a b = true) := by
  constructor
  · intro h
    rw [h]
    exact sortS_rise xs
  · intro h
    exact perm_rise leS_anti (sortS_perm xs).symm h (sortS_rise xs)
theorem group_iff (xs : List Str) : (decide xs.Nodup && decide (xs = sortS xs)) = riseS xs := by
  have : (xs.Nodup ∧ xs = sortS xs) ↔ riseS xs = true := by
    rw [riseS_pair, sort_iff]
    constructor
    · rintro ⟨h1, h2⟩
      exact (h2.and h1).imp fun h => lt_le.mpr h
    · intro h
      exact ⟨h.imp fun h => (lt_le.mp h).2, h.imp fun h => (lt_le.mp h).1⟩
  by_cases h : riseS xs = true
  · obtain ⟨h1, h2⟩ := this.mpr h
    rw [h, decide_eq_true h1, decide_eq_true h2]
    rfl
  · cases hr : riseS xs with
    | true => exact absurd hr h
    | false =>
      by_cases h1 : xs.Nodup
      · have h2 : ¬ xs = sortS xs := fun z => h (this.mp ⟨h1, z⟩)
        rw [decide_eq_false h2, Bool.and_false]
      · rw [decide_eq_false h1, Bool.false_and]
/-- what a group is -/
def grp (d : EV.D) : Bool := match d with
  | .tup ds => ds.all (fun d => spell d 6) && riseS (strsOf ds)
  | _ => false
theorem is_group_ok {n : Nat} {d : EV.D} {c : CL} (h : Th n d) : f_is_group [d] c = .ok (.bool (grp d), false) [] c := by
  cases h with
  | tup h1 h2 =>
    rename_i n ds
    have nm := is_names_ok (c := c) (.inr rfl) h1 h2
    cases hn : isNs ds with
    | false =>
      have g : grp (.tup ds) = false := by
        show (ds.all (fun d => spell d 6) && riseS (strsOf ds)) = false
        cases ha : ds.all (fun d => spell d 6) with
        | false => rfl
        | true =>
          obtain ⟨xs, rfl, hx, e⟩ := names_of h2 ha
          unfold isNs at hn
          rw [ha, e, List.length_map, dedS_nodup] at hn
          rw [e, ← group_iff]
          have : decide xs.Nodup = false := by simpa using hn
          rw [this]
          rfl
      rw [g]
      rw [hn] at nm
      simp only [f_is_group, m_is_group, tyIs, nm, b_ok, b_bad, b_ex, f_ok, f_bad, f_ex, n_nx, n_rt, n_bk, n_ct, n_ex, n_bad, l_nx, l_rt, l_bk, l_ct, l_ex, l_bad, sNx_e, sSeq_e, sBk_e, sCt_e, sRetN_e, sExp_e, kExp_e, sRet_e, kRet_e, sIf_e, kIf_t, kIf_f, sSet_e, kSet_e, svOf_t, svOf_f, sSetC_e, kCell_e, sAsg_e, kG1_e, oF_s, oF_n, gN_e, gT_e, gsNil_e, gsCons_e, sPar_e, kPar1_e, kPar2_e, sPar3_e, kPr1_e, kPr2_e, kPr3_e, sPut_e, kPut1_e, kPut2_e, isLst_l, kPut_e, kPt_e, kPu_e, plGet_e, pG_o, pG_c, plS_e, pS_o, pS_f, plC_e, pC_o, pC_c, mFr_e, kFz_e, mVar_e, kVar_f, kVar_o, mMov_e, kMov_f, kMov_o, mBw_e, kBw_f, kBw_o, mCon_e, mOf_e, kOf_e, o2_e, m2_e, k2a_e, k2b_e, kDB_s, kDB_n, fl_e, m1_e, k1a_e, get_dv, get_bw, sv_f, sv_o, sv_n, de_cell, de_non, de_bool, de_int, de_str, de_fn, de_rol, de_lst, de_tup, de_dct, de_dtt, de_ins, mCB_e, kCB_e, getAll_n, getAll_c, g2_e, mVals_e, kVl_e, vals_n, vals_c, aNil_e, aCons_e, kC1_e, kC2_e, mT_e, kTb_e, tAnd_e, kAn_t, kAn_f, tOr_e, kOr_t, kOr_f, tNot_e, kNt_e, mTru_e, kTr_e, kO_s, dTru_b, mIf_e, kIfe_t, kIfe_f, mAnd_e, kAnd_t, kAnd_f, mOr_e, kOr2_t, kOr2_f, mNot_e, kNot2_e, kFr_o, mFn_e, kF1_e, kFn_e, mFnK_e, kK1_e, v2_e, kK2_e, mMut_e, kMu_e, mMut0_e, oM_e, kMut_e, pNone_e, pSome_e, kPs_e, mCut_e, kCt1_e, kCt2_e, oC3_e, kCt3_e, fM_e, endF_n, endF_r, dAdd_i, dAdd_s, dAdd_l, dAdd_t, dSub_i, dMul_i, dDiv_i, dMod_i, dPow_i, dLt_i, dLe_i, dGt_i, dGe_i, dLt_s, dEq_i, dEq_b, dEq_s, dNe_i, dNe_b, dNe_s, dInt_i, dAbs_i, dLen_l, dLen_r, dLen_t, dLen_s, dIx_l, dIx_r, dIx_t, dList_l, dList_r, dList_t, dTuple_l, dTuple_t, dDispL_e, dDispT_e, dIsN_n, dNotN_n, dIsN_bool, dNotN_bool, dIsN_int, dNotN_int, dIsN_str, dNotN_str, dIsN_lst, dNotN_lst, dIsN_tup, dNotN_tup, dIsi_non, dIsiT_non, dIsi_bool, dIsiT_bool, dIsi_int, dIsiT_int, dIsi_str, dIsiT_str, dIsi_lst, dIsiT_lst, dIsi_rol, dIsiT_rol, dIsi_tup, dIsiT_tup, mChain_e, kH1_e, kH2_e, kH3_t, kH3_f, kH4_e, mM1_e, kM1_e, kM2_e, kM3_e, mJs_n, mJs_c, kJ_e, dFmt_s, dNeg_i, dDivmod_e, dMax2_e, dMin2_e, dCut_l, dCut_r, dCut_t, dCut_s, dPop_e, fApp_e, List.getElem?_cons_zero, List.getElem?_cons_succ, List.set_cons_zero, List.set_cons_succ, Option.bind_some, Option.bind_none, Option.map_some, Option.map_none, List.map_cons, List.map_nil, List.length_cons, List.length_nil, List.replicate, List.cons_append, List.nil_append, List.set_set, if_true, if_false, ite_true, ite_false, reduceIte, Nat.reduceAdd, Nat.reduceSub, Nat.zero_add, Nat.add_zero, Bool.not_true, Bool.not_false, decide_true, decide_false, Bool.true_and, Bool.and_true, Bool.false_and, Bool.and_false, Bool.or_true, Bool.true_or, Bool.or_false, Bool.false_or, eq_self]
    | true =>
      have ha : ds.all (fun d => spell d 6) = true := by
        unfold isNs at hn
        rw [Bool.and_eq_true] at hn
        exact hn.1
      obtain ⟨xs, rfl, hx, e⟩ := names_of h2 ha
      have hl : xs.length < 64 := by rw [List.length_map] at h1; omega
      have ed : decide xs.Nodup = true := by
        unfold isNs at hn
        rw [ha, e, List.length_map, dedS_nodup] at hn
        simpa using hn
      have g : grp (.tup (xs.map .str)) = decide (xs = sortS xs) := by
        show ((xs.map EV.D.str).all (fun d => spell d 6) && riseS (strsOf (xs.map .str))) = _
        rw [ha, e, ← group_iff, ed]
        rfl
      rw [g]
      rw [hn] at nm
      have es := eq_strs hx (ys := sortS xs) fun x h => hx x ((sortS_perm xs).mem_iff.mp h)
      simp only [f_is_group, m_is_group, tyIs, nm, dSorted_e hl, dEq_of es, b_ok, b_bad, b_ex, f_ok, f_bad, f_ex, n_nx, n_rt, n_bk, n_ct, n_ex, n_bad, l_nx, l_rt, l_bk, l_ct, l_ex, l_bad, sNx_e, sSeq_e, sBk_e, sCt_e, sRetN_e, sExp_e, kExp_e, sRet_e, kRet_e, sIf_e, kIf_t, kIf_f, sSet_e, kSet_e, svOf_t, svOf_f, sSetC_e, kCell_e, sAsg_e, kG1_e, oF_s, oF_n, gN_e, gT_e, gsNil_e, gsCons_e, sPar_e, kPar1_e, kPar2_e, sPar3_e, kPr1_e, kPr2_e, kPr3_e, sPut_e, kPut1_e, kPut2_e, isLst_l, kPut_e, kPt_e, kPu_e, plGet_e, pG_o, pG_c, plS_e, pS_o, pS_f, plC_e, pC_o, pC_c, mFr_e, kFz_e, mVar_e, kVar_f, kVar_o, mMov_e, kMov_f, kMov_o, mBw_e, kBw_f, kBw_o, mCon_e, mOf_e, kOf_e, o2_e, m2_e, k2a_e, k2b_e, kDB_s, kDB_n, fl_e, m1_e, k1a_e, get_dv, get_bw, sv_f, sv_o, sv_n, de_cell, de_non, de_bool, de_int, de_str, de_fn, de_rol, de_lst, de_tup, de_dct, de_dtt, de_ins, mCB_e, kCB_e, getAll_n, getAll_c, g2_e, mVals_e, kVl_e, vals_n, vals_c, aNil_e, aCons_e, kC1_e, kC2_e, mT_e, kTb_e, tAnd_e, kAn_t, kAn_f, tOr_e, kOr_t, kOr_f, tNot_e, kNt_e, mTru_e, kTr_e, kO_s, dTru_b, mIf_e, kIfe_t, kIfe_f, mAnd_e, kAnd_t, kAnd_f, mOr_e, kOr2_t, kOr2_f, mNot_e, kNot2_e, kFr_o, mFn_e, kF1_e, kFn_e, mFnK_e, kK1_e, v2_e, kK2_e, mMut_e, kMu_e, mMut0_e, oM_e, kMut_e, pNone_e, pSome_e, kPs_e, mCut_e, kCt1_e, kCt2_e, oC3_e, kCt3_e, fM_e, endF_n, endF_r, dAdd_i, dAdd_s, dAdd_l, dAdd_t, dSub_i, dMul_i, dDiv_i, dMod_i, dPow_i, dLt_i, dLe_i, dGt_i, dGe_i, dLt_s, dEq_i, dEq_b, dEq_s, dNe_i, dNe_b, dNe_s, dInt_i, dAbs_i, dLen_l, dLen_r, dLen_t, dLen_s, dIx_l, dIx_r, dIx_t, dList_l, dList_r, dList_t, dTuple_l, dTuple_t, dDispL_e, dDispT_e, dIsN_n, dNotN_n, dIsN_bool, dNotN_bool, dIsN_int, dNotN_int, dIsN_str, dNotN_str, dIsN_lst, dNotN_lst, dIsN_tup, dNotN_tup, dIsi_non, dIsiT_non, dIsi_bool, dIsiT_bool, dIsi_int, dIsiT_int, dIsi_str, dIsiT_str, dIsi_lst, dIsiT_lst, dIsi_rol, dIsiT_rol, dIsi_tup, dIsiT_tup, mChain_e, kH1_e, kH2_e, kH3_t, kH3_f, kH4_e, mM1_e, kM1_e, kM2_e, kM3_e, mJs_n, mJs_c, kJ_e, dFmt_s, dNeg_i, dDivmod_e, dMax2_e, dMin2_e, dCut_l, dCut_r, dCut_t, dCut_s, dPop_e, fApp_e, List.getElem?_cons_zero, List.getElem?_cons_succ, List.set_cons_zero, List.set_cons_succ, Option.bind_some, Option.bind_none, Option.map_some, Option.map_none, List.map_cons, List.map_nil, List.length_cons, List.length_nil, List.replicate, List.cons_append, List.nil_append, List.set_set, if_true, if_false, ite_true, ite_false, reduceIte, Nat.reduceAdd, Nat.reduceSub, Nat.zero_add, Nat.add_zero, Bool.not_true, Bool.not_false, decide_true, decide_false, Bool.true_and, Bool.and_true, Bool.false_and, Bool.and_false, Bool.or_true, Bool.true_or, Bool.or_false, Bool.false_or, eq_self]
  | str hx => simp only [f_is_group, m_is_group, tyIs, grp, b_ok, b_bad, b_ex, f_ok, f_bad, f_ex, n_nx, n_rt, n_bk, n_ct, n_ex, n_bad, l_nx, l_rt, l_bk, l_ct, l_ex, l_bad, sNx_e, sSeq_e, sBk_e, sCt_e, sRetN_e, sExp_e, kExp_e, sRet_e, kRet_e, sIf_e, kIf_t, kIf_f, sSet_e, kSet_e, svOf_t, svOf_f, sSetC_e, kCell_e, sAsg_e, kG1_e, oF_s, oF_n, gN_e, gT_e, gsNil_e, gsCons_e, sPar_e, kPar1_e, kPar2_e, sPar3_e, kPr1_e, kPr2_e, kPr3_e, sPut_e, kPut1_e, kPut2_e, isLst_l, kPut_e, kPt_e, kPu_e, plGet_e, pG_o, pG_c, plS_e, pS_o, pS_f, plC_e, pC_o, pC_c, mFr_e, kFz_e, mVar_e, kVar_f, kVar_o, mMov_e, kMov_f, kMov_o, mBw_e, kBw_f, kBw_o, mCon_e, mOf_e, kOf_e, o2_e, m2_e, k2a_e, k2b_e, kDB_s, kDB_n, fl_e, m1_e, k1a_e, get_dv, get_bw, sv_f, sv_o, sv_n, de_cell, de_non, de_bool, de_int, de_str, de_fn, de_rol, de_lst, de_tup, de_dct, de_dtt, de_ins, mCB_e, kCB_e, getAll_n, getAll_c, g2_e, mVals_e, kVl_e, vals_n, vals_c, aNil_e, aCons_e, kC1_e, kC2_e, mT_e, kTb_e, tAnd_e, kAn_t, kAn_f, tOr_e, kOr_t, kOr_f, tNot_e, kNt_e, mTru_e, kTr_e, kO_s, dTru_b, mIf_e, kIfe_t, kIfe_f, mAnd_e, kAnd_t, kAnd_f, mOr_e, kOr2_t, kOr2_f, mNot_e, kNot2_e, kFr_o, mFn_e, kF1_e, kFn_e, mFnK_e, kK1_e, v2_e, kK2_e, mMut_e, kMu_e, mMut0_e, oM_e, kMut_e, pNone_e, pSome_e, kPs_e, mCut_e, kCt1_e, kCt2_e, oC3_e, kCt3_e, fM_e, endF_n, endF_r, dAdd_i, dAdd_s, dAdd_l, dAdd_t, dSub_i, dMul_i, dDiv_i, dMod_i, dPow_i, dLt_i, dLe_i, dGt_i, dGe_i, dLt_s, dEq_i, dEq_b, dEq_s, dNe_i, dNe_b, dNe_s, dInt_i, dAbs_i, dLen_l, dLen_r, dLen_t, dLen_s, dIx_l, dIx_r, dIx_t, dList_l, dList_r, dList_t, dTuple_l, dTuple_t, dDispL_e, dDispT_e, dIsN_n, dNotN_n, dIsN_bool, dNotN_bool, dIsN_int, dNotN_int, dIsN_str, dNotN_str, dIsN_lst, dNotN_lst, dIsN_tup, dNotN_tup, dIsi_non, dIsiT_non, dIsi_bool, dIsiT_bool, dIsi_int, dIsiT_int, dIsi_str, dIsiT_str, dIsi_lst, dIsiT_lst, dIsi_rol, dIsiT_rol, dIsi_tup, dIsiT_tup, mChain_e, kH1_e, kH2_e, kH3_t, kH3_f, kH4_e, mM1_e, kM1_e, kM2_e, kM3_e, mJs_n, mJs_c, kJ_e, dFmt_s, dNeg_i, dDivmod_e, dMax2_e, dMin2_e, dCut_l, dCut_r, dCut_t, dCut_s, dPop_e, fApp_e, List.getElem?_cons_zero, List.getElem?_cons_succ, List.set_cons_zero, List.set_cons_succ, Option.bind_some, Option.bind_none, Option.map_some, Option.map_none, List.map_cons, List.map_nil, List.length_cons, List.length_nil, List.replicate, List.cons_append, List.nil_append, List.set_set, if_true, if_false, ite_true, ite_false, reduceIte, Nat.reduceAdd, Nat.reduceSub, Nat.zero_add, Nat.add_zero, Bool.not_true, Bool.not_false, decide_true, decide_false, Bool.true_and, Bool.and_true, Bool.false_and, Bool.and_false, Bool.or_true, Bool.true_or, Bool.or_false, Bool.false_or, eq_self]
  | non => simp only [f_is_group, m_is_group, tyIs, grp, b_ok, b_bad, b_ex, f_ok, f_bad, f_ex, n_nx, n_rt, n_bk, n_ct, n_ex, n_bad, l_nx, l_rt, l_bk, l_ct, l_ex, l_bad, sNx_e, sSeq_e, sBk_e, sCt_e, sRetN_e, sExp_e, kExp_e, sRet_e, kRet_e, sIf_e, kIf_t, kIf_f, sSet_e, kSet_e, svOf_t, svOf_f, sSetC_e, kCell_e, sAsg_e, kG1_e, oF_s, oF_n, gN_e, gT_e, gsNil_e, gsCons_e, sPar_e, kPar1_e, kPar2_e, sPar3_e, kPr1_e, kPr2_e, kPr3_e, sPut_e, kPut1_e, kPut2_e, isLst_l, kPut_e, kPt_e, kPu_e, plGet_e, pG_o, pG_c, plS_e, pS_o, pS_f, plC_e, pC_o, pC_c, mFr_e, kFz_e, mVar_e, kVar_f, kVar_o, mMov_e, kMov_f, kMov_o, mBw_e, kBw_f, kBw_o, mCon_e, mOf_e, kOf_e, o2_e, m2_e, k2a_e, k2b_e, kDB_s, kDB_n, fl_e, m1_e, k1a_e, get_dv, get_bw, sv_f, sv_o, sv_n, de_cell, de_non, de_bool, de_int, de_str, de_fn, de_rol, de_lst, de_tup, de_dct, de_dtt, de_ins, mCB_e, kCB_e, getAll_n, getAll_c, g2_e, mVals_e, kVl_e, vals_n, vals_c, aNil_e, aCons_e, kC1_e, kC2_e, mT_e, kTb_e, tAnd_e, kAn_t, kAn_f, tOr_e, kOr_t, kOr_f, tNot_e, kNt_e, mTru_e, kTr_e, kO_s, dTru_b, mIf_e, kIfe_t, kIfe_f, mAnd_e, kAnd_t, kAnd_f, mOr_e, kOr2_t, kOr2_f, mNot_e, kNot2_e, kFr_o, mFn_e, kF1_e, kFn_e, mFnK_e, kK1_e, v2_e, kK2_e, mMut_e, kMu_e, mMut0_e, oM_e, kMut_e, pNone_e, pSome_e, kPs_e, mCut_e, kCt1_e, kCt2_e, oC3_e, kCt3_e, fM_e, endF_n, endF_r, dAdd_i, dAdd_s, dAdd_l, dAdd_t, dSub_i, dMul_i, dDiv_i, dMod_i, dPow_i, dLt_i, dLe_i, dGt_i, dGe_i, dLt_s, dEq_i, dEq_b, dEq_s, dNe_i, dNe_b, dNe_s, dInt_i, dAbs_i, dLen_l, dLen_r, dLen_t, dLen_s, dIx_l, dIx_r, dIx_t, dList_l, dList_r, dList_t, dTuple_l, dTuple_t, dDispL_e, dDispT_e, dIsN_n, dNotN_n, dIsN_bool, dNotN_bool, dIsN_int, dNotN_int, dIsN_str, dNotN_str, dIsN_lst, dNotN_lst, dIsN_tup, dNotN_tup, dIsi_non, dIsiT_non, dIsi_bool, dIsiT_bool, dIsi_int, dIsiT_int, dIsi_str, dIsiT_str, dIsi_lst, dIsiT_lst, dIsi_rol, dIsiT_rol, dIsi_tup, dIsiT_tup, mChain_e, kH1_e, kH2_e, kH3_t, kH3_f, kH4_e, mM1_e, kM1_e, kM2_e, kM3_e, mJs_n, mJs_c, kJ_e, dFmt_s, dNeg_i, dDivmod_e, dMax2_e, dMin2_e, dCut_l, dCut_r, dCut_t, dCut_s, dPop_e, fApp_e, List.getElem?_cons_zero, List.getElem?_cons_succ, List.set_cons_zero, List.set_cons_succ, Option.bind_some, Option.bind_none, Option.map_some, Option.map_none, List.map_cons, List.map_nil, List.length_cons, List.length_nil, List.replicate, List.cons_append, List.nil_append, List.set_set, if_true, if_false, ite_true, ite_false, reduceIte, Nat.reduceAdd, Nat.reduceSub, Nat.zero_add, Nat.add_zero, Bool.not_true, Bool.not_false, decide_true, decide_false, Bool.true_and, Bool.and_true, Bool.false_and, Bool.and_false, Bool.or_true, Bool.true_or, Bool.or_false, Bool.false_or, eq_self]
  | bool b => simp only [f_is_group, m_is_group, tyIs, grp, b_ok, b_bad, b_ex, f_ok, f_bad, f_ex, n_nx, n_rt, n_bk, n_ct, n_ex, n_bad, l_nx, l_rt, l_bk, l_ct, l_ex, l_bad, sNx_e, sSeq_e, sBk_e, sCt_e, sRetN_e, sExp_e, kExp_e, sRet_e, kRet_e, sIf_e, kIf_t, kIf_f, sSet_e, kSet_e, svOf_t, svOf_f, sSetC_e, kCell_e, sAsg_e, kG1_e, oF_s, oF_n, gN_e, gT_e, gsNil_e, gsCons_e, sPar_e, kPar1_e, kPar2_e, sPar3_e, kPr1_e, kPr2_e, kPr3_e, sPut_e, kPut1_e, kPut2_e, isLst_l, kPut_e, kPt_e, kPu_e, plGet_e, pG_o, pG_c, plS_e, pS_o, pS_f, plC_e, pC_o, pC_c, mFr_e, kFz_e, mVar_e, kVar_f, kVar_o, mMov_e, kMov_f, kMov_o, mBw_e, kBw_f, kBw_o, mCon_e, mOf_e, kOf_e, o2_e, m2_e, k2a_e, k2b_e, kDB_s, kDB_n, fl_e, m1_e, k1a_e, get_dv, get_bw, sv_f, sv_o, sv_n, de_cell, de_non, de_bool, de_int, de_str, de_fn, de_rol, de_lst, de_tup, de_dct, de_dtt, de_ins, mCB_e, kCB_e, getAll_n, getAll_c, g2_e, mVals_e, kVl_e, vals_n, vals_c, aNil_e, aCons_e, kC1_e, kC2_e, mT_e, kTb_e, tAnd_e, kAn_t, kAn_f, tOr_e, kOr_t, kOr_f, tNot_e, kNt_e, mTru_e, kTr_e, kO_s, dTru_b, mIf_e, kIfe_t, kIfe_f, mAnd_e, kAnd_t, kAnd_f, mOr_e, kOr2_t, kOr2_f, mNot_e, kNot2_e, kFr_o, mFn_e, kF1_e, kFn_e, mFnK_e, kK1_e, v2_e, kK2_e, mMut_e, kMu_e, mMut0_e, oM_e, kMut_e, pNone_e, pSome_e, kPs_e, mCut_e, kCt1_e, kCt2_e, oC3_e, kCt3_e, fM_e, endF_n, endF_r, dAdd_i, dAdd_s, dAdd_l, dAdd_t, dSub_i, dMul_i, dDiv_i, dMod_i, dPow_i, dLt_i, dLe_i, dGt_i, dGe_i, dLt_s, dEq_i, dEq_b, dEq_s, dNe_i, dNe_b, dNe_s, dInt_i, dAbs_i, dLen_l, dLen_r, dLen_t, dLen_s, dIx_l, dIx_r, dIx_t, dList_l, dList_r, dList_t, dTuple_l, dTuple_t, dDispL_e, dDispT_e, dIsN_n, dNotN_n, dIsN_bool, dNotN_bool, dIsN_int, dNotN_int, dIsN_str, dNotN_str, dIsN_lst, dNotN_lst, dIsN_tup, dNotN_tup, dIsi_non, dIsiT_non, dIsi_bool, dIsiT_bool, dIsi_int, dIsiT_int, dIsi_str, dIsiT_str, dIsi_lst, dIsiT_lst, dIsi_rol, dIsiT_rol, dIsi_tup, dIsiT_tup, mChain_e, kH1_e, kH2_e, kH3_t, kH3_f, kH4_e, mM1_e, kM1_e, kM2_e, kM3_e, mJs_n, mJs_c, kJ_e, dFmt_s, dNeg_i, dDivmod_e, dMax2_e, dMin2_e, dCut_l, dCut_r, dCut_t, dCut_s, dPop_e, fApp_e, List.getElem?_cons_zero, List.getElem?_cons_succ, List.set_cons_zero, List.set_cons_succ, Option.bind_some, Option.bind_none, Option.map_some, Option.map_none, List.map_cons, List.map_nil, List.length_cons, List.length_nil, List.replicate, List.cons_append, List.nil_append, List.set_set, if_true, if_false, ite_true, ite_false, reduceIte, Nat.reduceAdd, Nat.reduceSub, Nat.zero_add, Nat.add_zero, Bool.not_true, Bool.not_false, decide_true, decide_false, Bool.true_and, Bool.and_true, Bool.false_and, Bool.and_false, Bool.or_true, Bool.true_or, Bool.or_false, Bool.false_or, eq_self]
  | int i => simp only [f_is_group, m_is_group, tyIs, grp, b_ok, b_bad, b_ex, f_ok, f_bad, f_ex, n_nx, n_rt, n_bk, n_ct, n_ex, n_bad, l_nx, l_rt, l_bk, l_ct, l_ex, l_bad, sNx_e, sSeq_e, sBk_e, sCt_e, sRetN_e, sExp_e, kExp_e, sRet_e, kRet_e, sIf_e, kIf_t, kIf_f, sSet_e, kSet_e, svOf_t, svOf_f, sSetC_e, kCell_e, sAsg_e, kG1_e, oF_s, oF_n, gN_e, gT_e, gsNil_e, gsCons_e, sPar_e, kPar1_e, kPar2_e, sPar3_e, kPr1_e, kPr2_e, kPr3_e, sPut_e, kPut1_e, kPut2_e, isLst_l, kPut_e, kPt_e, kPu_e, plGet_e, pG_o, pG_c, plS_e, pS_o, pS_f, plC_e, pC_o, pC_c, mFr_e, kFz_e, mVar_e, kVar_f, kVar_o, mMov_e, kMov_f, kMov_o, mBw_e, kBw_f, kBw_o, mCon_e, mOf_e, kOf_e, o2_e, m2_e, k2a_e, k2b_e, kDB_s, kDB_n, fl_e, m1_e, k1a_e, get_dv, get_bw, sv_f, sv_o, sv_n, de_cell, de_non, de_bool, de_int, de_str, de_fn, de_rol, de_lst, de_tup, de_dct, de_dtt, de_ins, mCB_e, kCB_e, getAll_n, getAll_c, g2_e, mVals_e, kVl_e, vals_n, vals_c, aNil_e, aCons_e, kC1_e, kC2_e, mT_e, kTb_e, tAnd_e, kAn_t, kAn_f, tOr_e, kOr_t, kOr_f, tNot_e, kNt_e, mTru_e, kTr_e, kO_s, dTru_b, mIf_e, kIfe_t, kIfe_f, mAnd_e, kAnd_t, kAnd_f, mOr_e, kOr2_t, kOr2_f, mNot_e, kNot2_e, kFr_o, mFn_e, kF1_e, kFn_e, mFnK_e, kK1_e, v2_e, kK2_e, mMut_e, kMu_e, mMut0_e, oM_e, kMut_e, pNone_e, pSome_e, kPs_e, mCut_e, kCt1_e, kCt2_e, oC3_e, kCt3_e, fM_e, endF_n, endF_r, dAdd_i, dAdd_s, dAdd_l, dAdd_t, dSub_i, dMul_i, dDiv_i, dMod_i, dPow_i, dLt_i, dLe_i, dGt_i, dGe_i, dLt_s, dEq_i, dEq_b, dEq_s, dNe_i, dNe_b, dNe_s, dInt_i, dAbs_i, dLen_l, dLen_r, dLen_t, dLen_s, dIx_l, dIx_r, dIx_t, dList_l, dList_r, dList_t, dTuple_l, dTuple_t, dDispL_e, dDispT_e, dIsN_n, dNotN_n, dIsN_bool, dNotN_bool, dIsN_int, dNotN_int, dIsN_str, dNotN_str, dIsN_lst, dNotN_lst, dIsN_tup, dNotN_tup, dIsi_non, dIsiT_non, dIsi_bool, dIsiT_bool, dIsi_int, dIsiT_int, dIsi_str, dIsiT_str, dIsi_lst, dIsiT_lst, dIsi_rol, dIsiT_rol, dIsi_tup, dIsiT_tup, mChain_e, kH1_e, kH2_e, kH3_t, kH3_f, kH4_e, mM1_e, kM1_e, kM2_e, kM3_e, mJs_n, mJs_c, kJ_e, dFmt_s, dNeg_i, dDivmod_e, dMax2_e, dMin2_e, dCut_l, dCut_r, dCut_t, dCut_s, dPop_e, fApp_e, List.getElem?_cons_zero, List.getElem?_cons_succ, List.set_cons_zero, List.set_cons_succ, Option.bind_some, Option.bind_none, Option.map_some, Option.map_none, List.map_cons, List.map_nil, List.length_cons, List.length_nil, List.replicate, List.cons_append, List.nil_append, List.set_set, if_true, if_false, ite_true, ite_false, reduceIte, Nat.reduceAdd, Nat.reduceSub, Nat.zero_add, Nat.add_zero, Bool.not_true, Bool.not_false, decide_true, decide_false, Bool.true_and, Bool.and_true, Bool.false_and, Bool.and_false, Bool.or_true, Bool.true_or, Bool.or_false, Bool.false_or, eq_self]
  | lst h1 h2 => simp only [f_is_group, m_is_group, tyIs, grp, b_ok, b_bad, b_ex, f_ok, f_bad, f_ex, n_nx, n_rt, n_bk, n_ct, n_ex, n_bad, l_nx, l_rt, l_bk, l_ct, l_ex, l_bad, sNx_e, sSeq_e, sBk_e, sCt_e, sRetN_e, sExp_e, kExp_e, sRet_e, kRet_e, sIf_e, kIf_t, kIf_f, sSet_e, kSet_e, svOf_t, svOf_f, sSetC_e, kCell_e, sAsg_e, kG1_e, oF_s, oF_n, gN_e, gT_e, gsNil_e, gsCons_e, sPar_e, kPar1_e, kPar2_e, sPar3_e, kPr1_e, kPr2_e, kPr3_e, sPut_e, kPut1_e, kPut2_e, isLst_l, kPut_e, kPt_e, kPu_e, plGet_e, pG_o, pG_c, plS_e, pS_o, pS_f, plC_e, pC_o, pC_c, mFr_e, kFz_e, mVar_e, kVar_f, kVar_o, mMov_e, kMov_f, kMov_o, mBw_e, kBw_f, kBw_o, mCon_e, mOf_e, kOf_e, o2_e, m2_e, k2a_e, k2b_e, kDB_s, kDB_n, fl_e, m1_e, k1a_e, get_dv, get_bw, sv_f, sv_o, sv_n, de_cell, de_non, de_bool, de_int, de_str, de_fn, de_rol, de_lst, de_tup, de_dct, de_dtt, de_ins, mCB_e, kCB_e, getAll_n, getAll_c, g2_e, mVals_e, kVl_e, vals_n, vals_c, aNil_e, aCons_e, kC1_e, kC2_e, mT_e, kTb_e, tAnd_e, kAn_t, kAn_f, tOr_e, kOr_t, kOr_f, tNot_e, kNt_e, mTru_e, kTr_e, kO_s, dTru_b, mIf_e, kIfe_t, kIfe_f, mAnd_e, kAnd_t, kAnd_f, mOr_e, kOr2_t, kOr2_f, mNot_e, kNot2_e, kFr_o, mFn_e, kF1_e, kFn_e, mFnK_e, kK1_e, v2_e, kK2_e, mMut_e, kMu_e, mMut0_e, oM_e, kMut_e, pNone_e, pSome_e, kPs_e, mCut_e, kCt1_e, kCt2_e, oC3_e, kCt3_e, fM_e, endF_n, endF_r, dAdd_i, dAdd_s, dAdd_l, dAdd_t, dSub_i, dMul_i, dDiv_i, dMod_i, dPow_i, dLt_i, dLe_i, dGt_i, dGe_i, dLt_s, dEq_i, dEq_b, dEq_s, dNe_i, dNe_b, dNe_s, dInt_i, dAbs_i, dLen_l, dLen_r, dLen_t, dLen_s, dIx_l, dIx_r, dIx_t, dList_l, dList_r, dList_t, dTuple_l, dTuple_t, dDispL_e, dDispT_e, dIsN_n, dNotN_n, dIsN_bool, dNotN_bool, dIsN_int, dNotN_int, dIsN_str, dNotN_str, dIsN_lst, dNotN_lst, dIsN_tup, dNotN_tup, dIsi_non, dIsiT_non, dIsi_bool, dIsiT_bool, dIsi_int, dIsiT_int, dIsi_str, dIsiT_str, dIsi_lst, dIsiT_lst, dIsi_rol, dIsiT_rol, dIsi_tup, dIsiT_tup, mChain_e, kH1_e, kH2_e, kH3_t, kH3_f, kH4_e, mM1_e, kM1_e, kM2_e, kM3_e, mJs_n, mJs_c, kJ_e, dFmt_s, dNeg_i, dDivmod_e, dMax2_e, dMin2_e, dCut_l, dCut_r, dCut_t, dCut_s, dPop_e, fApp_e, List.getElem?_cons_zero, List.getElem?_cons_succ, List.set_cons_zero, List.set_cons_succ, Option.bind_some, Option.bind_none, Option.map_some, Option.map_none, List.map_cons, List.map_nil, List.length_cons, List.length_nil, List.replicate, List.cons_append, List.nil_append, List.set_set, if_true, if_false, ite_true, ite_false, reduceIte, Nat.reduceAdd, Nat.reduceSub, Nat.zero_add, Nat.add_zero, Bool.not_true, Bool.not_false, decide_true, decide_false, Bool.true_and, Bool.and_true, Bool.false_and, Bool.and_false, Bool.or_true, Bool.true_or, Bool.or_false, Bool.false_or, eq_self]
end KW

set_option Elab.async false
set_option linter.all false
set_option maxRecDepth 100000
namespace KW
open PySem PySem.Spec L2 EV
open PyProof.Rows hiding St
def ltAt (xs : List Str) (k : Nat) : Bool := match xs[k]?, xs[k + 1]? with
  | some a, some b => ltS a b
  | _, _ => true
theorem rise_range : ∀ xs : List Str, (List.range (xs.length - 1)).all (ltAt xs) = riseS xs
  | [] => rfl
  | [x] => rfl
  | x :: y :: r => by
    have ih := rise_range (y :: r)
    show (List.range (r.length + 1)).all (ltAt (x :: y :: r)) = (ltS x y && riseS (y :: r))
    rw [List.range_succ_eq_map, List.all_cons, List.all_map]
    have e : (ltAt (x :: y :: r) ∘ Nat.succ) = ltAt (y :: r) := by
      funext k
      rfl
    rw [e]
    have e2 : (List.range r.length).all (ltAt (y :: r)) = riseS (y :: r) := ih
    rw [e2]
    rfl
/-- the number of a range's item -/
def natOf : EV.D → Nat
  | .int i => i.toNat
  | _ => 0
theorem rngD_mem {n : Nat} {d : EV.D} (h : d ∈ rngD 0 n) : ∃ k : Nat, k < n ∧ d = .int (k : Int) := by
  unfold rngD at h
  obtain ⟨k, h1, h2⟩ := List.mem_map.mp h
  exact ⟨k, List.mem_range.mp h1, by rw [← h2]; congr 1; omega⟩
theorem rngD_all {n : Nat} (p : Nat → Bool) : (rngD 0 n).all (fun d => p (natOf d)) = (List.range n).all p := by
  unfold rngD
  rw [List.all_map]
  congr 1
  funext k
  show p ((0 + (k : Int)).toNat) = p k
  congr 1
  omega
theorem Th.ints {n : Nat} {d : EV.D} (h : d ∈ rngD 0 n) : Th 0 d := by
  obtain ⟨k, _, rfl⟩ := rngD_mem h
  exact .int _
theorem group_so_ok {n : Nat} {d : EV.D} {c : CL} (h : Th n d) (hn : n ≤ 50) : f__law_group_so [d] c = .ok (.bool (grp d), false) [] c := by
  cases h with
  | tup h1 h2 =>
    rename_i n ds
    have hz : ((0 : Nat) ≤ sizeLine) = True := eq_true (Nat.zero_le _)
    have hL : sizeLine = 16777216 := sizeLine_eq
    have lc : mLc (iAny (mOf (mVar 0))) (gN 1) (tNotM (mTru (mOf (mFn 2 f__law_letters (aCons (mOf (mVar 1)) (aCons (mOf (mCon (.int 6))) aNil)))))) (mVar 1) [1] [.fz (.tup ds), .no, .no] c = .ok (.lst ((ds.filter fun d => !spell d 6).map id), true) [.fz (.tup ds), .no, .no] c := by
      have := mLc_pure (s := [.fz (.tup ds), .no, .no]) (s1 := [.fz (.tup ds), .no, .no]) (c := c) (c1 := c) (mi := iAny (mOf (mVar 0))) (g := gN 1) (t := tNotM (mTru (mOf (mFn 2 f__law_letters (aCons (mOf (mVar 1)) (aCons (mOf (mCon (.int 6))) aNil)))))) (m := mVar 1) (vs := [1]) (p := fun d => !spell d 6) (q := id) (iAny_t (ds := ds) (by simp only [b_ok, b_bad, b_ex, f_ok, f_bad, f_ex, n_nx, n_rt, n_bk, n_ct, n_ex, n_bad, l_nx, l_rt, l_bk, l_ct, l_ex, l_bad, sNx_e, sSeq_e, sBk_e, sCt_e, sRetN_e, sExp_e, kExp_e, sRet_e, kRet_e, sIf_e, kIf_t, kIf_f, sSet_e, kSet_e, svOf_t, svOf_f, sSetC_e, kCell_e, sAsg_e, kG1_e, oF_s, oF_n, gN_e, gT_e, gsNil_e, gsCons_e, sPar_e, kPar1_e, kPar2_e, sPar3_e, kPr1_e, kPr2_e, kPr3_e, sPut_e, kPut1_e, kPut2_e, isLst_l, kPut_e, kPt_e, kPu_e, plGet_e, pG_o, pG_c, plS_e, pS_o, pS_f, plC_e, pC_o, pC_c, mFr_e, kFz_e, mVar_e, kVar_f, kVar_o, mMov_e, kMov_f, kMov_o, mBw_e, kBw_f, kBw_o, mCon_e, mOf_e, kOf_e, o2_e, m2_e, k2a_e, k2b_e, kDB_s, kDB_n, fl_e, m1_e, k1a_e, get_dv, get_bw, sv_f, sv_o, sv_n, de_cell, de_non, de_bool, de_int, de_str, de_fn, de_rol, de_lst, de_tup, de_dct, de_dtt, de_ins, mCB_e, kCB_e, getAll_n, getAll_c, g2_e, mVals_e, kVl_e, vals_n, vals_c, aNil_e, aCons_e, kC1_e, kC2_e, mT_e, kTb_e, tAnd_e, kAn_t, kAn_f, tOr_e, kOr_t, kOr_f, tNot_e, kNt_e, mTru_e, kTr_e, kO_s, dTru_b, mIf_e, kIfe_t, kIfe_f, mAnd_e, kAnd_t, kAnd_f, mOr_e, kOr2_t, kOr2_f, mNot_e, kNot2_e, kFr_o, mFn_e, kF1_e, kFn_e, mFnK_e, kK1_e, v2_e, kK2_e, mMut_e, kMu_e, mMut0_e, oM_e, kMut_e, pNone_e, pSome_e, kPs_e, mCut_e, kCt1_e, kCt2_e, oC3_e, kCt3_e, fM_e, endF_n, endF_r, dAdd_i, dAdd_s, dAdd_l, dAdd_t, dSub_i, dMul_i, dDiv_i, dMod_i, dPow_i, dLt_i, dLe_i, dGt_i, dGe_i, dLt_s, dEq_i, dEq_b, dEq_s, dNe_i, dNe_b, dNe_s, dInt_i, dAbs_i, dLen_l, dLen_r, dLen_t, dLen_s, dIx_l, dIx_r, dIx_t, dList_l, dList_r, dList_t, dTuple_l, dTuple_t, dDispL_e, dDispT_e, dIsN_n, dNotN_n, dIsN_bool, dNotN_bool, dIsN_int, dNotN_int, dIsN_str, dNotN_str, dIsN_lst, dNotN_lst, dIsN_tup, dNotN_tup, dIsi_non, dIsiT_non, dIsi_bool, dIsiT_bool, dIsi_int, dIsiT_int, dIsi_str, dIsiT_str, dIsi_lst, dIsiT_lst, dIsi_rol, dIsiT_rol, dIsi_tup, dIsiT_tup, mChain_e, kH1_e, kH2_e, kH3_t, kH3_f, kH4_e, mM1_e, kM1_e, kM2_e, kM3_e, mJs_n, mJs_c, kJ_e, dFmt_s, dNeg_i, dDivmod_e, dMax2_e, dMin2_e, dCut_l, dCut_r, dCut_t, dCut_s, dPop_e, fApp_e, List.getElem?_cons_zero, List.getElem?_cons_succ, List.set_cons_zero, List.set_cons_succ, Option.bind_some, Option.bind_none, Option.map_some, Option.map_none, List.map_cons, List.map_nil, List.length_cons, List.length_nil, List.replicate, List.cons_append, List.nil_append, List.set_set, if_true, if_false, ite_true, ite_false, reduceIte, Nat.reduceAdd, Nat.reduceSub, Nat.zero_add, Nat.add_zero, Bool.not_true, Bool.not_false, decide_true, decide_false, Bool.true_and, Bool.and_true, Bool.false_and, Bool.and_false, Bool.or_true, Bool.true_or, Bool.or_false, Bool.false_or, eq_self])) (by omega) fun e he => ⟨_, rfl, rfl, by
          have := letters_ok (most := 6) (c := c) (h2 e he)
          simp only [swipe, this, b_ok, b_bad, b_ex, f_ok, f_bad, f_ex, n_nx, n_rt, n_bk, n_ct, n_ex, n_bad, l_nx, l_rt, l_bk, l_ct, l_ex, l_bad, sNx_e, sSeq_e, sBk_e, sCt_e, sRetN_e, sExp_e, kExp_e, sRet_e, kRet_e, sIf_e, kIf_t, kIf_f, sSet_e, kSet_e, svOf_t, svOf_f, sSetC_e, kCell_e, sAsg_e, kG1_e, oF_s, oF_n, gN_e, gT_e, gsNil_e, gsCons_e, sPar_e, kPar1_e, kPar2_e, sPar3_e, kPr1_e, kPr2_e, kPr3_e, sPut_e, kPut1_e, kPut2_e, isLst_l, kPut_e, kPt_e, kPu_e, plGet_e, pG_o, pG_c, plS_e, pS_o, pS_f, plC_e, pC_o, pC_c, mFr_e, kFz_e, mVar_e, kVar_f, kVar_o, mMov_e, kMov_f, kMov_o, mBw_e, kBw_f, kBw_o, mCon_e, mOf_e, kOf_e, o2_e, m2_e, k2a_e, k2b_e, kDB_s, kDB_n, fl_e, m1_e, k1a_e, get_dv, get_bw, sv_f, sv_o, sv_n, de_cell, de_non, de_bool, de_int, de_str, de_fn, de_rol, de_lst, de_tup, de_dct, de_dtt, de_ins, mCB_e, kCB_e, getAll_n, getAll_c, g2_e, mVals_e, kVl_e, vals_n, vals_c, aNil_e, aCons_e, kC1_e, kC2_e, mT_e, kTb_e, tAnd_e, kAn_t, kAn_f, tOr_e, kOr_t, kOr_f, tNot_e, kNt_e, mTru_e, kTr_e, kO_s, dTru_b, mIf_e, kIfe_t, kIfe_f, mAnd_e, kAnd_t, kAnd_f, mOr_e, kOr2_t, kOr2_f, mNot_e, kNot2_e, kFr_o, mFn_e, kF1_e, kFn_e, mFnK_e, kK1_e, v2_e, kK2_e, mMut_e, kMu_e, mMut0_e, oM_e, kMut_e, pNone_e, pSome_e, kPs_e, mCut_e, kCt1_e, kCt2_e, oC3_e, kCt3_e, fM_e, endF_n, endF_r, dAdd_i, dAdd_s, dAdd_l, dAdd_t, dSub_i, dMul_i, dDiv_i, dMod_i, dPow_i, dLt_i, dLe_i, dGt_i, dGe_i, dLt_s, dEq_i, dEq_b, dEq_s, dNe_i, dNe_b, dNe_s, dInt_i, dAbs_i, dLen_l, dLen_r, dLen_t, dLen_s, dIx_l, dIx_r, dIx_t, dList_l, dList_r, dList_t, dTuple_l, dTuple_t, dDispL_e, dDispT_e, dIsN_n, dNotN_n, dIsN_bool, dNotN_bool, dIsN_int, dNotN_int, dIsN_str, dNotN_str, dIsN_lst, dNotN_lst, dIsN_tup, dNotN_tup, dIsi_non, dIsiT_non, dIsi_bool, dIsiT_bool, dIsi_int, dIsiT_int, dIsi_str, dIsiT_str, dIsi_lst, dIsiT_lst, dIsi_rol, dIsiT_rol, dIsi_tup, dIsiT_tup, mChain_e, kH1_e, kH2_e, kH3_t, kH3_f, kH4_e, mM1_e, kM1_e, kM2_e, kM3_e, mJs_n, mJs_c, kJ_e, dFmt_s, dNeg_i, dDivmod_e, dMax2_e, dMin2_e, dCut_l, dCut_r, dCut_t, dCut_s, dPop_e, fApp_e, List.getElem?_cons_zero, List.getElem?_cons_succ, List.set_cons_zero, List.set_cons_succ, Option.bind_some, Option.bind_none, Option.map_some, Option.map_none, List.map_cons, List.map_nil, List.length_cons, List.length_nil, List.replicate, List.cons_append, List.nil_append, List.set_set, if_true, if_false, ite_true, ite_false, reduceIte, Nat.reduceAdd, Nat.reduceSub, Nat.zero_add, Nat.add_zero, Bool.not_true, Bool.not_false, decide_true, decide_false, Bool.true_and, Bool.and_true, Bool.false_and, Bool.and_false, Bool.or_true, Bool.true_or, Bool.or_false, Bool.false_or, eq_self], fun _ => ⟨false, by simp only [swipe, id, b_ok, b_bad, b_ex, f_ok, f_bad, f_ex, n_nx, n_rt, n_bk, n_ct, n_ex, n_bad, l_nx, l_rt, l_bk, l_ct, l_ex, l_bad, sNx_e, sSeq_e, sBk_e, sCt_e, sRetN_e, sExp_e, kExp_e, sRet_e, kRet_e, sIf_e, kIf_t, kIf_f, sSet_e, kSet_e, svOf_t, svOf_f, sSetC_e, kCell_e, sAsg_e, kG1_e, oF_s, oF_n, gN_e, gT_e, gsNil_e, gsCons_e, sPar_e, kPar1_e, kPar2_e, sPar3_e, kPr1_e, kPr2_e, kPr3_e, sPut_e, kPut1_e, kPut2_e, isLst_l, kPut_e, kPt_e, kPu_e, plGet_e, pG_o, pG_c, plS_e, pS_o, pS_f, plC_e, pC_o, pC_c, mFr_e, kFz_e, mVar_e, kVar_f, kVar_o, mMov_e, kMov_f, kMov_o, mBw_e, kBw_f, kBw_o, mCon_e, mOf_e, kOf_e, o2_e, m2_e, k2a_e, k2b_e, kDB_s, kDB_n, fl_e, m1_e, k1a_e, get_dv, get_bw, sv_f, sv_o, sv_n, de_cell, de_non, de_bool, de_int, de_str, de_fn, de_rol, de_lst, de_tup, de_dct, de_dtt, de_ins, mCB_e, kCB_e, getAll_n, getAll_c, g2_e, mVals_e, kVl_e, vals_n, vals_c, aNil_e, aCons_e, kC1_e, kC2_e, mT_e, kTb_e, tAnd_e, kAn_t, kAn_f, tOr_e, kOr_t, kOr_f, tNot_e, kNt_e, mTru_e, kTr_e, kO_s, dTru_b, mIf_e, kIfe_t, kIfe_f, mAnd_e, kAnd_t, kAnd_f, mOr_e, kOr2_t, kOr2_f, mNot_e, kNot2_e, kFr_o, mFn_e, kF1_e, kFn_e, mFnK_e, kK1_e, v2_e, kK2_e, mMut_e, kMu_e, mMut0_e, oM_e, kMut_e, pNone_e, pSome_e, kPs_e, mCut_e, kCt1_e, kCt2_e, oC3_e, kCt3_e, fM_e, endF_n, endF_r, dAdd_i, dAdd_s, dAdd_l, dAdd_t, dSub_i, dMul_i, dDiv_i, dMod_i, dPow_i, dLt_i, dLe_i, dGt_i, dGe_i, dLt_s, dEq_i, dEq_b, dEq_s, dNe_i, dNe_b, dNe_s, dInt_i, dAbs_i, dLen_l, dLen_r, dLen_t, dLen_s, dIx_l, dIx_r, dIx_t, dList_l, dList_r, dList_t, dTuple_l, dTuple_t, dDispL_e, dDispT_e, dIsN_n, dNotN_n, dIsN_bool, dNotN_bool, dIsN_int, dNotN_int, dIsN_str, dNotN_str, dIsN_lst, dNotN_lst, dIsN_tup, dNotN_tup, dIsi_non, dIsiT_non, dIsi_bool, dIsiT_bool, dIsi_int, dIsiT_int, dIsi_str, dIsiT_str, dIsi_lst, dIsiT_lst, dIsi_rol, dIsiT_rol, dIsi_tup, dIsiT_tup, mChain_e, kH1_e, kH2_e, kH3_t, kH3_f, kH4_e, mM1_e, kM1_e, kM2_e, kM3_e, mJs_n, mJs_c, kJ_e, dFmt_s, dNeg_i, dDivmod_e, dMax2_e, dMin2_e, dCut_l, dCut_r, dCut_t, dCut_s, dPop_e, fApp_e, List.getElem?_cons_zero, List.getElem?_cons_succ, List.set_cons_zero, List.set_cons_succ, Option.bind_some, Option.bind_none, Option.map_some, Option.map_none, List.map_cons, List.map_nil, List.length_cons, List.length_nil, List.replicate, List.cons_append, List.nil_append, List.set_set, if_true, if_false, ite_true, ite_false, reduceIte, Nat.reduceAdd, Nat.reduceSub, Nat.zero_add, Nat.add_zero, Bool.not_true, Bool.not_false, decide_true, decide_false, Bool.true_and, Bool.and_true, Bool.false_and, Bool.and_false, Bool.or_true, Bool.true_or, Bool.or_false, Bool.false_or, eq_self]⟩⟩
      rw [this]
      rfl
    have en : dEqB (.lst ((ds.filter fun d => !spell d 6).map id)) (.lst []) = some (ds.all fun d => spell d 6) := by
      rw [List.map_id, eq_nil (n := n) (by omega), isEmpty_filter]
      exact fun d hd => h2 d (List.mem_filter.mp hd).1
    cases ha : ds.all (fun d => spell d 6) with
    | false =>
      have g : grp (.tup ds) = false := by
        show (ds.all (fun d => spell d 6) && riseS (strsOf ds)) = false
        rw [ha]
        rfl
      rw [g]
      rw [ha] at en
      simp only [f__law_group_so, m__law_group_so, tyIs, lc, dNe_of en, hz, b_ok, b_bad, b_ex, f_ok, f_bad, f_ex, n_nx, n_rt, n_bk, n_ct, n_ex, n_bad, l_nx, l_rt, l_bk, l_ct, l_ex, l_bad, sNx_e, sSeq_e, sBk_e, sCt_e, sRetN_e, sExp_e, kExp_e, sRet_e, kRet_e, sIf_e, kIf_t, kIf_f, sSet_e, kSet_e, svOf_t, svOf_f, sSetC_e, kCell_e, sAsg_e, kG1_e, oF_s, oF_n, gN_e, gT_e, gsNil_e, gsCons_e, sPar_e, kPar1_e, kPar2_e, sPar3_e, kPr1_e, kPr2_e, kPr3_e, sPut_e, kPut1_e, kPut2_e, isLst_l, kPut_e, kPt_e, kPu_e, plGet_e, pG_o, pG_c, plS_e, pS_o, pS_f, plC_e, pC_o, pC_c, mFr_e, kFz_e, mVar_e, kVar_f, kVar_o, mMov_e, kMov_f, kMov_o, mBw_e, kBw_f, kBw_o, mCon_e, mOf_e, kOf_e, o2_e, m2_e, k2a_e, k2b_e, kDB_s, kDB_n, fl_e, m1_e, k1a_e, get_dv, get_bw, sv_f, sv_o, sv_n, de_cell, de_non, de_bool, de_int, de_str, de_fn, de_rol, de_lst, de_tup, de_dct, de_dtt, de_ins, mCB_e, kCB_e, getAll_n, getAll_c, g2_e, mVals_e, kVl_e, vals_n, vals_c, aNil_e, aCons_e, kC1_e, kC2_e, mT_e, kTb_e, tAnd_e, kAn_t, kAn_f, tOr_e, kOr_t, kOr_f, tNot_e, kNt_e, mTru_e, kTr_e, kO_s, dTru_b, mIf_e, kIfe_t, kIfe_f, mAnd_e, kAnd_t, kAnd_f, mOr_e, kOr2_t, kOr2_f, mNot_e, kNot2_e, kFr_o, mFn_e, kF1_e, kFn_e, mFnK_e, kK1_e, v2_e, kK2_e, mMut_e, kMu_e, mMut0_e, oM_e, kMut_e, pNone_e, pSome_e, kPs_e, mCut_e, kCt1_e, kCt2_e, oC3_e, kCt3_e, fM_e, endF_n, endF_r, dAdd_i, dAdd_s, dAdd_l, dAdd_t, dSub_i, dMul_i, dDiv_i, dMod_i, dPow_i, dLt_i, dLe_i, dGt_i, dGe_i, dLt_s, dEq_i, dEq_b, dEq_s, dNe_i, dNe_b, dNe_s, dInt_i, dAbs_i, dLen_l, dLen_r, dLen_t, dLen_s, dIx_l, dIx_r, dIx_t, dList_l, dList_r, dList_t, dTuple_l, dTuple_t, dDispL_e, dDispT_e, dIsN_n, dNotN_n, dIsN_bool, dNotN_bool, dIsN_int, dNotN_int, dIsN_str, dNotN_str, dIsN_lst, dNotN_lst, dIsN_tup, dNotN_tup, dIsi_non, dIsiT_non, dIsi_bool, dIsiT_bool, dIsi_int, dIsiT_int, dIsi_str, dIsiT_str, dIsi_lst, dIsiT_lst, dIsi_rol, dIsiT_rol, dIsi_tup, dIsiT_tup, mChain_e, kH1_e, kH2_e, kH3_t, kH3_f, kH4_e, mM1_e, kM1_e, kM2_e, kM3_e, mJs_n, mJs_c, kJ_e, dFmt_s, dNeg_i, dDivmod_e, dMax2_e, dMin2_e, dCut_l, dCut_r, dCut_t, dCut_s, dPop_e, fApp_e, List.getElem?_cons_zero, List.getElem?_cons_succ, List.set_cons_zero, List.set_cons_succ, Option.bind_some, Option.bind_none, Option.map_some, Option.map_none, List.map_cons, List.map_nil, List.length_cons, List.length_nil, List.replicate, List.cons_append, List.nil_append, List.set_set, if_true, if_false, ite_true, ite_false, reduceIte, Nat.reduceAdd, Nat.reduceSub, Nat.zero_add, Nat.add_zero, Bool.not_true, Bool.not_false, decide_true, decide_false, Bool.true_and, Bool.and_true, Bool.false_and, Bool.and_false, Bool.or_true, Bool.true_or, Bool.or_false, Bool.false_or, eq_self]
    | true =>
      rw [ha] at en
      obtain ⟨xs, rfl, hx, e⟩ := names_of h2 ha
      have g : grp (.tup (xs.map .str)) = riseS xs := by
        show ((xs.map EV.D.str).all (fun d => spell d 6) && riseS (strsOf (xs.map .str))) = _
        rw [ha, e]
        rfl
      rw [g]
      have h1' : xs.length ≤ 50 := by rw [List.length_map] at h1; exact h1
      have el : (((xs.map EV.D.str).length : Int) - 1).toNat = xs.length - 1 := by rw [List.length_map]; omega
      have lc2 : mLc (iRng1 (aCons (mOf (m2 dSub (mOf (mCB dLen (aCons (mBw 0) aNil))) (mOf (mCon (.int 1))))) aNil)) (gN 2) (tNotM (mT (m2 dLt (mOf (m2 dIx (mBw 0) (mBw 2))) (mOf (m2 dIx (mBw 0) (mOf (m2 dAdd (mBw 2) (mOf (mCon (.int 1)))))))))) (mVar 2) [2] [.fz (.tup (xs.map .str)), .no, .no] c
          = .ok (.lst (((rngD 0 (xs.length - 1)).filter fun d => !ltAt xs (natOf d)).map id), true) [.fz (.tup (xs.map .str)), .no, .no] c := by
        have := mLc_pure (s := [.fz (.tup (xs.map .str)), .no, .no]) (s1 := [.fz (.tup (xs.map .str)), .no, .no]) (c := c) (c1 := c) (mi := iRng1 (aCons (mOf (m2 dSub (mOf (mCB dLen (aCons (mBw 0) aNil))) (mOf (mCon (.int 1))))) aNil)) (g := gN 2) (t := tNotM (mT (m2 dLt (mOf (m2 dIx (mBw 0) (mBw 2))) (mOf (m2 dIx (mBw 0) (mOf (m2 dAdd (mBw 2) (mOf (mCon (.int 1)))))))))) (m := mVar 2) (vs := [2])
          (p := fun d => !ltAt xs (natOf d)) (q := id) (ds := rngD 0 (xs.length - 1)) (by
            rw [← el]
            exact iRng1_e (s1 := [.fz (.tup (xs.map .str)), .no, .no]) (c1 := c) (ods := [.dv (.int (((xs.map EV.D.str).length : Int) - 1))]) (by simp only [b_ok, b_bad, b_ex, f_ok, f_bad, f_ex, n_nx, n_rt, n_bk, n_ct, n_ex, n_bad, l_nx, l_rt, l_bk, l_ct, l_ex, l_bad, sNx_e, sSeq_e, sBk_e, sCt_e, sRetN_e, sExp_e, kExp_e, sRet_e, kRet_e, sIf_e, kIf_t, kIf_f, sSet_e, kSet_e, svOf_t, svOf_f, sSetC_e, kCell_e, sAsg_e, kG1_e, oF_s, oF_n, gN_e, gT_e, gsNil_e, gsCons_e, sPar_e, kPar1_e, kPar2_e, sPar3_e, kPr1_e, kPr2_e, kPr3_e, sPut_e, kPut1_e, kPut2_e, isLst_l, kPut_e, kPt_e, kPu_e, plGet_e, pG_o, pG_c, plS_e, pS_o, pS_f, plC_e, pC_o, pC_c, mFr_e, kFz_e, mVar_e, kVar_f, kVar_o, mMov_e, kMov_f, kMov_o, mBw_e, kBw_f, kBw_o, mCon_e, mOf_e, kOf_e, o2_e, m2_e, k2a_e, k2b_e, kDB_s, kDB_n, fl_e, m1_e, k1a_e, get_dv, get_bw, sv_f, sv_o, sv_n, de_cell, de_non, de_bool, de_int, de_str, de_fn, de_rol, de_lst, de_tup, de_dct, de_dtt, de_ins, mCB_e, kCB_e, getAll_n, getAll_c, g2_e, mVals_e, kVl_e, vals_n, vals_c, aNil_e, aCons_e, kC1_e, kC2_e, mT_e, kTb_e, tAnd_e, kAn_t, kAn_f, tOr_e, kOr_t, kOr_f, tNot_e, kNt_e, mTru_e, kTr_e, kO_s, dTru_b, mIf_e, kIfe_t, kIfe_f, mAnd_e, kAnd_t, kAnd_f, mOr_e, kOr2_t, kOr2_f, mNot_e, kNot2_e, kFr_o, mFn_e, kF1_e, kFn_e, mFnK_e, kK1_e, v2_e, kK2_e, mMut_e, kMu_e, mMut0_e, oM_e, kMut_e, pNone_e, pSome_e, kPs_e, mCut_e, kCt1_e, kCt2_e, oC3_e, kCt3_e, fM_e, endF_n, endF_r, dAdd_i, dAdd_s, dAdd_l, dAdd_t, dSub_i, dMul_i, dDiv_i, dMod_i, dPow_i, dLt_i, dLe_i, dGt_i, dGe_i, dLt_s, dEq_i, dEq_b, dEq_s, dNe_i, dNe_b, dNe_s, dInt_i, dAbs_i, dLen_l, dLen_r, dLen_t, dLen_s, dIx_l, dIx_r, dIx_t, dList_l, dList_r, dList_t, dTuple_l, dTuple_t, dDispL_e, dDispT_e, dIsN_n, dNotN_n, dIsN_bool, dNotN_bool, dIsN_int, dNotN_int, dIsN_str, dNotN_str, dIsN_lst, dNotN_lst, dIsN_tup, dNotN_tup, dIsi_non, dIsiT_non, dIsi_bool, dIsiT_bool, dIsi_int, dIsiT_int, dIsi_str, dIsiT_str, dIsi_lst, dIsiT_lst, dIsi_rol, dIsiT_rol, dIsi_tup, dIsiT_tup, mChain_e, kH1_e, kH2_e, kH3_t, kH3_f, kH4_e, mM1_e, kM1_e, kM2_e, kM3_e, mJs_n, mJs_c, kJ_e, dFmt_s, dNeg_i, dDivmod_e, dMax2_e, dMin2_e, dCut_l, dCut_r, dCut_t, dCut_s, dPop_e, fApp_e, List.getElem?_cons_zero, List.getElem?_cons_succ, List.set_cons_zero, List.set_cons_succ, Option.bind_some, Option.bind_none, Option.map_some, Option.map_none, List.map_cons, List.map_nil, List.length_cons, List.length_nil, List.replicate, List.cons_append, List.nil_append, List.set_set, if_true, if_false, ite_true, ite_false, reduceIte, Nat.reduceAdd, Nat.reduceSub, Nat.zero_add, Nat.add_zero, Bool.not_true, Bool.not_false, decide_true, decide_false, Bool.true_and, Bool.and_true, Bool.false_and, Bool.and_false, Bool.or_true, Bool.true_or, Bool.or_false, Bool.false_or, eq_self]) (by simp only [b_ok, b_bad, b_ex, f_ok, f_bad, f_ex, n_nx, n_rt, n_bk, n_ct, n_ex, n_bad, l_nx, l_rt, l_bk, l_ct, l_ex, l_bad, sNx_e, sSeq_e, sBk_e, sCt_e, sRetN_e, sExp_e, kExp_e, sRet_e, kRet_e, sIf_e, kIf_t, kIf_f, sSet_e, kSet_e, svOf_t, svOf_f, sSetC_e, kCell_e, sAsg_e, kG1_e, oF_s, oF_n, gN_e, gT_e, gsNil_e, gsCons_e, sPar_e, kPar1_e, kPar2_e, sPar3_e, kPr1_e, kPr2_e, kPr3_e, sPut_e, kPut1_e, kPut2_e, isLst_l, kPut_e, kPt_e, kPu_e, plGet_e, pG_o, pG_c, plS_e, pS_o, pS_f, plC_e, pC_o, pC_c, mFr_e, kFz_e, mVar_e, kVar_f, kVar_o, mMov_e, kMov_f, kMov_o, mBw_e, kBw_f, kBw_o, mCon_e, mOf_e, kOf_e, o2_e, m2_e, k2a_e, k2b_e, kDB_s, kDB_n, fl_e, m1_e, k1a_e, get_dv, get_bw, sv_f, sv_o, sv_n, de_cell, de_non, de_bool, de_int, de_str, de_fn, de_rol, de_lst, de_tup, de_dct, de_dtt, de_ins, mCB_e, kCB_e, getAll_n, getAll_c, g2_e, mVals_e, kVl_e, vals_n, vals_c, aNil_e, aCons_e, kC1_e, kC2_e, mT_e, kTb_e, tAnd_e, kAn_t, kAn_f, tOr_e, kOr_t, kOr_f, tNot_e, kNt_e, mTru_e, kTr_e, kO_s, dTru_b, mIf_e, kIfe_t, kIfe_f, mAnd_e, kAnd_t, kAnd_f, mOr_e, kOr2_t, kOr2_f, mNot_e, kNot2_e, kFr_o, mFn_e, kF1_e, kFn_e, mFnK_e, kK1_e, v2_e, kK2_e, mMut_e, kMu_e, mMut0_e, oM_e, kMut_e, pNone_e, pSome_e, kPs_e, mCut_e, kCt1_e, kCt2_e, oC3_e, kCt3_e, fM_e, endF_n, endF_r, dAdd_i, dAdd_s, dAdd_l, dAdd_t, dSub_i, dMul_i, dDiv_i, dMod_i, dPow_i, dLt_i, dLe_i, dGt_i, dGe_i, dLt_s, dEq_i, dEq_b, dEq_s, dNe_i, dNe_b, dNe_s, dInt_i, dAbs_i, dLen_l, dLen_r, dLen_t, dLen_s, dIx_l, dIx_r, dIx_t, dList_l, dList_r, dList_t, dTuple_l, dTuple_t, dDispL_e, dDispT_e, dIsN_n, dNotN_n, dIsN_bool, dNotN_bool, dIsN_int, dNotN_int, dIsN_str, dNotN_str, dIsN_lst, dNotN_lst, dIsN_tup, dNotN_tup, dIsi_non, dIsiT_non, dIsi_bool, dIsiT_bool, dIsi_int, dIsiT_int, dIsi_str, dIsiT_str, dIsi_lst, dIsiT_lst, dIsi_rol, dIsiT_rol, dIsi_tup, dIsiT_tup, mChain_e, kH1_e, kH2_e, kH3_t, kH3_f, kH4_e, mM1_e, kM1_e, kM2_e, kM3_e, mJs_n, mJs_c, kJ_e, dFmt_s, dNeg_i, dDivmod_e, dMax2_e, dMin2_e, dCut_l, dCut_r, dCut_t, dCut_s, dPop_e, fApp_e, List.getElem?_cons_zero, List.getElem?_cons_succ, List.set_cons_zero, List.set_cons_succ, Option.bind_some, Option.bind_none, Option.map_some, Option.map_none, List.map_cons, List.map_nil, List.length_cons, List.length_nil, List.replicate, List.cons_append, List.nil_append, List.set_set, if_true, if_false, ite_true, ite_false, reduceIte, Nat.reduceAdd, Nat.reduceSub, Nat.zero_add, Nat.add_zero, Bool.not_true, Bool.not_false, decide_true, decide_false, Bool.true_and, Bool.and_true, Bool.false_and, Bool.and_false, Bool.or_true, Bool.true_or, Bool.or_false, Bool.false_or, eq_self]) (by rw [List.length_map]; omega)) (by rw [rngD_len]; omega) fun e he => by
            obtain ⟨k, hk, rfl⟩ := rngD_mem he
            have k1 : k < xs.length := by omega
            have k2 : k + 1 < xs.length := by omega
            have a1 : atI (xs.map EV.D.str) (k : Int) = some (.str xs[k]) := atI_n (by rw [List.getElem?_map, List.getElem?_eq_getElem k1]; rfl)
            have a2 : atI (xs.map EV.D.str) ((k : Int) + 1) = some (.str xs[k + 1]) := atI_n (j := k + 1) (by rw [List.getElem?_map, List.getElem?_eq_getElem k2]; rfl)
            have lt : ltAt xs (natOf (.int (k : Int))) = decide (xs[k].cps.toList < xs[k + 1].cps.toList) := by
              show (match xs[((k : Int)).toNat]?, xs[((k : Int)).toNat + 1]? with
                | some a, some b => ltS a b
                | _, _ => true) = _
              rw [Int.toNat_natCast, List.getElem?_eq_getElem k1, List.getElem?_eq_getElem k2]
              rfl
            refine ⟨_, rfl, rfl, ?_, fun _ => ⟨false, ?_⟩⟩
            · rw [lt]
              simp only [swipe, a1, a2, b_ok, b_bad, b_ex, f_ok, f_bad, f_ex, n_nx, n_rt, n_bk, n_ct, n_ex, n_bad, l_nx, l_rt, l_bk, l_ct, l_ex, l_bad, sNx_e, sSeq_e, sBk_e, sCt_e, sRetN_e, sExp_e, kExp_e, sRet_e, kRet_e, sIf_e, kIf_t, kIf_f, sSet_e, kSet_e, svOf_t, svOf_f, sSetC_e, kCell_e, sAsg_e, kG1_e, oF_s, oF_n, gN_e, gT_e, gsNil_e, gsCons_e, sPar_e, kPar1_e, kPar2_e, sPar3_e, kPr1_e, kPr2_e, kPr3_e, sPut_e, kPut1_e, kPut2_e, isLst_l, kPut_e, kPt_e, kPu_e, plGet_e, pG_o, pG_c, plS_e, pS_o, pS_f, plC_e, pC_o, pC_c, mFr_e, kFz_e, mVar_e, kVar_f, kVar_o, mMov_e, kMov_f, kMov_o, mBw_e, kBw_f, kBw_o, mCon_e, mOf_e, kOf_e, o2_e, m2_e, k2a_e, k2b_e, kDB_s, kDB_n, fl_e, m1_e, k1a_e, get_dv, get_bw, sv_f, sv_o, sv_n, de_cell, de_non, de_bool, de_int, de_str, de_fn, de_rol, de_lst, de_tup, de_dct, de_dtt, de_ins, mCB_e, kCB_e, getAll_n, getAll_c, g2_e, mVals_e, kVl_e, vals_n, vals_c, aNil_e, aCons_e, kC1_e, kC2_e, mT_e, kTb_e, tAnd_e, kAn_t, kAn_f, tOr_e, kOr_t, kOr_f, tNot_e, kNt_e, mTru_e, kTr_e, kO_s, dTru_b, mIf_e, kIfe_t, kIfe_f, mAnd_e, kAnd_t, kAnd_f, mOr_e, kOr2_t, kOr2_f, mNot_e, kNot2_e, kFr_o, mFn_e, kF1_e, kFn_e, mFnK_e, kK1_e, v2_e, kK2_e, mMut_e, kMu_e, mMut0_e, oM_e, kMut_e, pNone_e, pSome_e, kPs_e, mCut_e, kCt1_e, kCt2_e, oC3_e, kCt3_e, fM_e, endF_n, endF_r, dAdd_i, dAdd_s, dAdd_l, dAdd_t, dSub_i, dMul_i, dDiv_i, dMod_i, dPow_i, dLt_i, dLe_i, dGt_i, dGe_i, dLt_s, dEq_i, dEq_b, dEq_s, dNe_i, dNe_b, dNe_s, dInt_i, dAbs_i, dLen_l, dLen_r, dLen_t, dLen_s, dIx_l, dIx_r, dIx_t, dList_l, dList_r, dList_t, dTuple_l, dTuple_t, dDispL_e, dDispT_e, dIsN_n, dNotN_n, dIsN_bool, dNotN_bool, dIsN_int, dNotN_int, dIsN_str, dNotN_str, dIsN_lst, dNotN_lst, dIsN_tup, dNotN_tup, dIsi_non, dIsiT_non, dIsi_bool, dIsiT_bool, dIsi_int, dIsiT_int, dIsi_str, dIsiT_str, dIsi_lst, dIsiT_lst, dIsi_rol, dIsiT_rol, dIsi_tup, dIsiT_tup, mChain_e, kH1_e, kH2_e, kH3_t, kH3_f, kH4_e, mM1_e, kM1_e, kM2_e, kM3_e, mJs_n, mJs_c, kJ_e, dFmt_s, dNeg_i, dDivmod_e, dMax2_e, dMin2_e, dCut_l, dCut_r, dCut_t, dCut_s, dPop_e, fApp_e, List.getElem?_cons_zero, List.getElem?_cons_succ, List.set_cons_zero, List.set_cons_succ, Option.bind_some, Option.bind_none, Option.map_some, Option.map_none, List.map_cons, List.map_nil, List.length_cons, List.length_nil, List.replicate, List.cons_append, List.nil_append, List.set_set, if_true, if_false, ite_true, ite_false, reduceIte, Nat.reduceAdd, Nat.reduceSub, Nat.zero_add, Nat.add_zero, Bool.not_true, Bool.not_false, decide_true, decide_false, Bool.true_and, Bool.and_true, Bool.false_and, Bool.and_false, Bool.or_true, Bool.true_or, Bool.or_false, Bool.false_or, eq_self]
            · simp only [swipe, id, b_ok, b_bad, b_ex, f_ok, f_bad, f_ex, n_nx, n_rt, n_bk, n_ct, n_ex, n_bad, l_nx, l_rt, l_bk, l_ct, l_ex, l_bad, sNx_e, sSeq_e, sBk_e, sCt_e, sRetN_e, sExp_e, kExp_e, sRet_e, kRet_e, sIf_e, kIf_t, kIf_f, sSet_e, kSet_e, svOf_t, svOf_f, sSetC_e, kCell_e, sAsg_e, kG1_e, oF_s, oF_n, gN_e, gT_e, gsNil_e, gsCons_e, sPar_e, kPar1_e, kPar2_e, sPar3_e, kPr1_e, kPr2_e, kPr3_e, sPut_e, kPut1_e, kPut2_e, isLst_l, kPut_e, kPt_e, kPu_e, plGet_e, pG_o, pG_c, plS_e, pS_o, pS_f, plC_e, pC_o, pC_c, mFr_e, kFz_e, mVar_e, kVar_f, kVar_o, mMov_e, kMov_f, kMov_o, mBw_e, kBw_f, kBw_o, mCon_e, mOf_e, kOf_e, o2_e, m2_e, k2a_e, k2b_e, kDB_s, kDB_n, fl_e, m1_e, k1a_e, get_dv, get_bw, sv_f, sv_o, sv_n, de_cell, de_non, de_bool, de_int, de_str, de_fn, de_rol, de_lst, de_tup, de_dct, de_dtt, de_ins, mCB_e, kCB_e, getAll_n, getAll_c, g2_e, mVals_e, kVl_e, vals_n, vals_c, aNil_e, aCons_e, kC1_e, kC2_e, mT_e, kTb_e, tAnd_e, kAn_t, kAn_f, tOr_e, kOr_t, kOr_f, tNot_e, kNt_e, mTru_e, kTr_e, kO_s, dTru_b, mIf_e, kIfe_t, kIfe_f, mAnd_e, kAnd_t, kAnd_f, mOr_e, kOr2_t, kOr2_f, mNot_e, kNot2_e, kFr_o, mFn_e, kF1_e, kFn_e, mFnK_e, kK1_e, v2_e, kK2_e, mMut_e, kMu_e, mMut0_e, oM_e, kMut_e, pNone_e, pSome_e, kPs_e, mCut_e, kCt1_e, kCt2_e, oC3_e, kCt3_e, fM_e, endF_n, endF_r, dAdd_i, dAdd_s, dAdd_l, dAdd_t, dSub_i, dMul_i, dDiv_i, dMod_i, dPow_i, dLt_i, dLe_i, dGt_i, dGe_i, dLt_s, dEq_i, dEq_b, dEq_s, dNe_i, dNe_b, dNe_s, dInt_i, dAbs_i, dLen_l, dLen_r, dLen_t, dLen_s, dIx_l, dIx_r, dIx_t, dList_l, dList_r, dList_t, dTuple_l, dTuple_t, dDispL_e, dDispT_e, dIsN_n, dNotN_n, dIsN_bool, dNotN_bool, dIsN_int, dNotN_int, dIsN_str, dNotN_str, dIsN_lst, dNotN_lst, dIsN_tup, dNotN_tup, dIsi_non, dIsiT_non, dIsi_bool, dIsiT_bool, dIsi_int, dIsiT_int, dIsi_str, dIsiT_str, dIsi_lst, dIsiT_lst, dIsi_rol, dIsiT_rol, dIsi_tup, dIsiT_tup, mChain_e, kH1_e, kH2_e, kH3_t, kH3_f, kH4_e, mM1_e, kM1_e, kM2_e, kM3_e, mJs_n, mJs_c, kJ_e, dFmt_s, dNeg_i, dDivmod_e, dMax2_e, dMin2_e, dCut_l, dCut_r, dCut_t, dCut_s, dPop_e, fApp_e, List.getElem?_cons_zero, List.getElem?_cons_succ, List.set_cons_zero, List.set_cons_succ, Option.bind_some, Option.bind_none, Option.map_some, Option.map_none, List.map_cons, List.map_nil, List.length_cons, List.length_nil, List.replicate, List.cons_append, List.nil_append, List.set_set, if_true, if_false, ite_true, ite_false, reduceIte, Nat.reduceAdd, Nat.reduceSub, Nat.zero_add, Nat.add_zero, Bool.not_true, Bool.not_false, decide_true, decide_false, Bool.true_and, Bool.and_true, Bool.false_and, Bool.and_false, Bool.or_true, Bool.true_or, Bool.or_false, Bool.false_or, eq_self]
        rw [this]
        rfl
      have en2 : dEqB (.lst (((rngD 0 (xs.length - 1)).filter fun d => !ltAt xs (natOf d)).map id)) (.lst []) = some (riseS xs) := by
        rw [List.map_id, eq_nil (n := 0) (by decide), isEmpty_filter, rngD_all (ltAt xs), rise_range]
        exact fun d hd => Th.ints (List.mem_filter.mp hd).1
      simp only [f__law_group_so, m__law_group_so, tyIs, lc, lc2, dNe_of en, dEq_of en2, hz, b_ok, b_bad, b_ex, f_ok, f_bad, f_ex, n_nx, n_rt, n_bk, n_ct, n_ex, n_bad, l_nx, l_rt, l_bk, l_ct, l_ex, l_bad, sNx_e, sSeq_e, sBk_e, sCt_e, sRetN_e, sExp_e, kExp_e, sRet_e, kRet_e, sIf_e, kIf_t, kIf_f, sSet_e, kSet_e, svOf_t, svOf_f, sSetC_e, kCell_e, sAsg_e, kG1_e, oF_s, oF_n, gN_e, gT_e, gsNil_e, gsCons_e, sPar_e, kPar1_e, kPar2_e, sPar3_e, kPr1_e, kPr2_e, kPr3_e, sPut_e, kPut1_e, kPut2_e, isLst_l, kPut_e, kPt_e, kPu_e, plGet_e, pG_o, pG_c, plS_e, pS_o, pS_f, plC_e, pC_o, pC_c, mFr_e, kFz_e, mVar_e, kVar_f, kVar_o, mMov_e, kMov_f, kMov_o, mBw_e, kBw_f, kBw_o, mCon_e, mOf_e, kOf_e, o2_e, m2_e, k2a_e, k2b_e, kDB_s, kDB_n, fl_e, m1_e, k1a_e, get_dv, get_bw, sv_f, sv_o, sv_n, de_cell, de_non, de_bool, de_int, de_str, de_fn, de_rol, de_lst, de_tup, de_dct, de_dtt, de_ins, mCB_e, kCB_e, getAll_n, getAll_c, g2_e, mVals_e, kVl_e, vals_n, vals_c, aNil_e, aCons_e, kC1_e, kC2_e, mT_e, kTb_e, tAnd_e, kAn_t, kAn_f, tOr_e, kOr_t, kOr_f, tNot_e, kNt_e, mTru_e, kTr_e, kO_s, dTru_b, mIf_e, kIfe_t, kIfe_f, mAnd_e, kAnd_t, kAnd_f, mOr_e, kOr2_t, kOr2_f, mNot_e, kNot2_e, kFr_o, mFn_e, kF1_e, kFn_e, mFnK_e, kK1_e, v2_e, kK2_e, mMut_e, kMu_e, mMut0_e, oM_e, kMut_e, pNone_e, pSome_e, kPs_e, mCut_e, kCt1_e, kCt2_e, oC3_e, kCt3_e, fM_e, endF_n, endF_r, dAdd_i, dAdd_s, dAdd_l, dAdd_t, dSub_i, dMul_i, dDiv_i, dMod_i, dPow_i, dLt_i, dLe_i, dGt_i, dGe_i, dLt_s, dEq_i, dEq_b, dEq_s, dNe_i, dNe_b, dNe_s, dInt_i, dAbs_i, dLen_l, dLen_r, dLen_t, dLen_s, dIx_l, dIx_r, dIx_t, dList_l, dList_r, dList_t, dTuple_l, dTuple_t, dDispL_e, dDispT_e, dIsN_n, dNotN_n, dIsN_bool, dNotN_bool, dIsN_int, dNotN_int, dIsN_str, dNotN_str, dIsN_lst, dNotN_lst, dIsN_tup, dNotN_tup, dIsi_non, dIsiT_non, dIsi_bool, dIsiT_bool, dIsi_int, dIsiT_int, dIsi_str, dIsiT_str, dIsi_lst, dIsiT_lst, dIsi_rol, dIsiT_rol, dIsi_tup, dIsiT_tup, mChain_e, kH1_e, kH2_e, kH3_t, kH3_f, kH4_e, mM1_e, kM1_e, kM2_e, kM3_e, mJs_n, mJs_c, kJ_e, dFmt_s, dNeg_i, dDivmod_e, dMax2_e, dMin2_e, dCut_l, dCut_r, dCut_t, dCut_s, dPop_e, fApp_e, List.getElem?_cons_zero, List.getElem?_cons_succ, List.set_cons_zero, List.set_cons_succ, Option.bind_some, Option.bind_none, Option.map_some, Option.map_none, List.map_cons, List.map_nil, List.length_cons, List.length_nil, List.replicate, List.cons_append, List.nil_append, List.set_set, if_true, if_false, ite_true, ite_false, reduceIte, Nat.reduceAdd, Nat.reduceSub, Nat.zero_add, Nat.add_zero, Bool.not_true, Bool.not_false, decide_true, decide_false, Bool.true_and, Bool.and_true, Bool.false_and, Bool.and_false, Bool.or_true, Bool.true_or, Bool.or_false, Bool.false_or, eq_self]
  | str hx => simp only [f__law_group_so, m__law_group_so, tyIs, grp, b_ok, b_bad, b_ex, f_ok, f_bad, f_ex, n_nx, n_rt, n_bk, n_ct, n_ex, n_bad, l_nx, l_rt, l_bk, l_ct, l_ex, l_bad, sNx_e, sSeq_e, sBk_e, sCt_e, sRetN_e, sExp_e, kExp_e, sRet_e, kRet_e, sIf_e, kIf_t, kIf_f, sSet_e, kSet_e, svOf_t, svOf_f, sSetC_e, kCell_e, sAsg_e, kG1_e, oF_s, oF_n, gN_e, gT_e, gsNil_e, gsCons_e, sPar_e, kPar1_e, kPar2_e, sPar3_e, kPr1_e, kPr2_e, kPr3_e, sPut_e, kPut1_e, kPut2_e, isLst_l, kPut_e, kPt_e, kPu_e, plGet_e, pG_o, pG_c, plS_e, pS_o, pS_f, plC_e, pC_o, pC_c, mFr_e, kFz_e, mVar_e, kVar_f, kVar_o, mMov_e, kMov_f, kMov_o, mBw_e, kBw_f, kBw_o, mCon_e, mOf_e, kOf_e, o2_e, m2_e, k2a_e, k2b_e, kDB_s, kDB_n, fl_e, m1_e, k1a_e, get_dv, get_bw, sv_f, sv_o, sv_n, de_cell, de_non, de_bool, de_int, de_str, de_fn, de_rol, de_lst, de_tup, de_dct, de_dtt, de_ins, mCB_e, kCB_e, getAll_n, getAll_c, g2_e, mVals_e, kVl_e, vals_n, vals_c, aNil_e, aCons_e, kC1_e, kC2_e, mT_e, kTb_e, tAnd_e, kAn_t, kAn_f, tOr_e, kOr_t, kOr_f, tNot_e, kNt_e, mTru_e, kTr_e, kO_s, dTru_b, mIf_e, kIfe_t, kIfe_f, mAnd_e, kAnd_t, kAnd_f, mOr_e, kOr2_t, kOr2_f, mNot_e, kNot2_e, kFr_o, mFn_e, kF1_e, kFn_e, mFnK_e, kK1_e, v2_e, kK2_e, mMut_e, kMu_e, mMut0_e, oM_e, kMut_e, pNone_e, pSome_e, kPs_e, mCut_e, kCt1_e, kCt2_e, oC3_e, kCt3_e, fM_e, endF_n, endF_r, dAdd_i, dAdd_s, dAdd_l, dAdd_t, dSub_i, dMul_i, dDiv_i, dMod_i, dPow_i, dLt_i, dLe_i, dGt_i, dGe_i, dLt_s, dEq_i, dEq_b, dEq_s, dNe_i, dNe_b, dNe_s, dInt_i, dAbs_i, dLen_l, dLen_r, dLen_t, dLen_s, dIx_l, dIx_r, dIx_t, dList_l, dList_r, dList_t, dTuple_l, dTuple_t, dDispL_e, dDispT_e, dIsN_n, dNotN_n, dIsN_bool, dNotN_bool, dIsN_int, dNotN_int, dIsN_str, dNotN_str, dIsN_lst, dNotN_lst, dIsN_tup, dNotN_tup, dIsi_non, dIsiT_non, dIsi_bool, dIsiT_bool, dIsi_int, dIsiT_int, dIsi_str, dIsiT_str, dIsi_lst, dIsiT_lst, dIsi_rol, dIsiT_rol, dIsi_tup, dIsiT_tup, mChain_e, kH1_e, kH2_e, kH3_t, kH3_f, kH4_e, mM1_e, kM1_e, kM2_e, kM3_e, mJs_n, mJs_c, kJ_e, dFmt_s, dNeg_i, dDivmod_e, dMax2_e, dMin2_e, dCut_l, dCut_r, dCut_t, dCut_s, dPop_e, fApp_e, List.getElem?_cons_zero, List.getElem?_cons_succ, List.set_cons_zero, List.set_cons_succ, Option.bind_some, Option.bind_none, Option.map_some, Option.map_none, List.map_cons, List.map_nil, List.length_cons, List.length_nil, List.replicate, List.cons_append, List.nil_append, List.set_set, if_true, if_false, ite_true, ite_false, reduceIte, Nat.reduceAdd, Nat.reduceSub, Nat.zero_add, Nat.add_zero, Bool.not_true, Bool.not_false, decide_true, decide_false, Bool.true_and, Bool.and_true, Bool.false_and, Bool.and_false, Bool.or_true, Bool.true_or, Bool.or_false, Bool.false_or, eq_self]
  | non => simp only [f__law_group_so, m__law_group_so, tyIs, grp, b_ok, b_bad, b_ex, f_ok, f_bad, f_ex, n_nx, n_rt, n_bk, n_ct, n_ex, n_bad, l_nx, l_rt, l_bk, l_ct, l_ex, l_bad, sNx_e, sSeq_e, sBk_e, sCt_e, sRetN_e, sExp_e, kExp_e, sRet_e, kRet_e, sIf_e, kIf_t, kIf_f, sSet_e, kSet_e, svOf_t, svOf_f, sSetC_e, kCell_e, sAsg_e, kG1_e, oF_s, oF_n, gN_e, gT_e, gsNil_e, gsCons_e, sPar_e, kPar1_e, kPar2_e, sPar3_e, kPr1_e, kPr2_e, kPr3_e, sPut_e, kPut1_e, kPut2_e, isLst_l, kPut_e, kPt_e, kPu_e, plGet_e, pG_o, pG_c, plS_e, pS_o, pS_f, plC_e, pC_o, pC_c, mFr_e, kFz_e, mVar_e, kVar_f, kVar_o, mMov_e, kMov_f, kMov_o, mBw_e, kBw_f, kBw_o, mCon_e, mOf_e, kOf_e, o2_e, m2_e, k2a_e, k2b_e, kDB_s, kDB_n, fl_e, m1_e, k1a_e, get_dv, get_bw, sv_f, sv_o, sv_n, de_cell, de_non, de_bool, de_int, de_str, de_fn, de_rol, de_lst, de_tup, de_dct, de_dtt, de_ins, mCB_e, kCB_e, getAll_n, getAll_c, g2_e, mVals_e, kVl_e, vals_n, vals_c, aNil_e, aCons_e, kC1_e, kC2_e, mT_e, kTb_e, tAnd_e, kAn_t, kAn_f, tOr_e, kOr_t, kOr_f, tNot_e, kNt_e, mTru_e, kTr_e, kO_s, dTru_b, mIf_e, kIfe_t, kIfe_f, mAnd_e, kAnd_t, kAnd_f, mOr_e, kOr2_t, kOr2_f, mNot_e, kNot2_e, kFr_o, mFn_e, kF1_e, kFn_e, mFnK_e, kK1_e, v2_e, kK2_e, mMut_e, kMu_e, mMut0_e, oM_e, kMut_e, pNone_e, pSome_e, kPs_e, mCut_e, kCt1_e, kCt2_e, oC3_e, kCt3_e, fM_e, endF_n, endF_r, dAdd_i, dAdd_s, dAdd_l, dAdd_t, dSub_i, dMul_i, dDiv_i, dMod_i, dPow_i, dLt_i, dLe_i, dGt_i, dGe_i, dLt_s, dEq_i, dEq_b, dEq_s, dNe_i, dNe_b, dNe_s, dInt_i, dAbs_i, dLen_l, dLen_r, dLen_t, dLen_s, dIx_l, dIx_r, dIx_t, dList_l, dList_r, dList_t, dTuple_l, dTuple_t, dDispL_e, dDispT_e, dIsN_n, dNotN_n, dIsN_bool, dNotN_bool, dIsN_int, dNotN_int, dIsN_str, dNotN_str, dIsN_lst, dNotN_lst, dIsN_tup, dNotN_tup, dIsi_non, dIsiT_non, dIsi_bool, dIsiT_bool, dIsi_int, dIsiT_int, dIsi_str, dIsiT_str, dIsi_lst, dIsiT_lst, dIsi_rol, dIsiT_rol, dIsi_tup, dIsiT_tup, mChain_e, kH1_e, kH2_e, kH3_t, kH3_f, kH4_e, mM1_e, kM1_e, kM2_e, kM3_e, mJs_n, mJs_c, kJ_e, dFmt_s, dNeg_i, dDivmod_e, dMax2_e, dMin2_e, dCut_l, dCut_r, dCut_t, dCut_s, dPop_e, fApp_e, List.getElem?_cons_zero, List.getElem?_cons_succ, List.set_cons_zero, List.set_cons_succ, Option.bind_some, Option.bind_none, Option.map_some, Option.map_none, List.map_cons, List.map_nil, List.length_cons, List.length_nil, List.replicate, List.cons_append, List.nil_append, List.set_set, if_true, if_false, ite_true, ite_false, reduceIte, Nat.reduceAdd, Nat.reduceSub, Nat.zero_add, Nat.add_zero, Bool.not_true, Bool.not_false, decide_true, decide_false, Bool.true_and, Bool.and_true, Bool.false_and, Bool.and_false, Bool.or_true, Bool.true_or, Bool.or_false, Bool.false_or, eq_self]
  | bool b => simp only [f__law_group_so, m__law_group_so, tyIs, grp, b_ok, b_bad, b_ex, f_ok, f_bad, f_ex, n_nx, n_rt, n_bk, n_ct, n_ex, n_bad, l_nx, l_rt, l_bk, l_ct, l_ex, l_bad, sNx_e, sSeq_e, sBk_e, sCt_e, sRetN_e, sExp_e, kExp_e, sRet_e, kRet_e, sIf_e, kIf_t, kIf_f, sSet_e, kSet_e, svOf_t, svOf_f, sSetC_e, kCell_e, sAsg_e, kG1_e, oF_s, oF_n, gN_e, gT_e, gsNil_e, gsCons_e, sPar_e, kPar1_e, kPar2_e, sPar3_e, kPr1_e, kPr2_e, kPr3_e, sPut_e, kPut1_e, kPut2_e, isLst_l, kPut_e, kPt_e, kPu_e, plGet_e, pG_o, pG_c, plS_e, pS_o, pS_f, plC_e, pC_o, pC_c, mFr_e, kFz_e, mVar_e, kVar_f, kVar_o, mMov_e, kMov_f, kMov_o, mBw_e, kBw_f, kBw_o, mCon_e, mOf_e, kOf_e, o2_e, m2_e, k2a_e, k2b_e, kDB_s, kDB_n, fl_e, m1_e, k1a_e, get_dv, get_bw, sv_f, sv_o, sv_n, de_cell, de_non, de_bool, de_int, de_str, de_fn, de_rol, de_lst, de_tup, de_dct, de_dtt, de_ins, mCB_e, kCB_e, getAll_n, getAll_c, g2_e, mVals_e, kVl_e, vals_n, vals_c, aNil_e, aCons_e, kC1_e, kC2_e, mT_e, kTb_e, tAnd_e, kAn_t, kAn_f, tOr_e, kOr_t, kOr_f, tNot_e, kNt_e, mTru_e, kTr_e, kO_s, dTru_b, mIf_e, kIfe_t, kIfe_f, mAnd_e, kAnd_t, kAnd_f, mOr_e, kOr2_t, kOr2_f, mNot_e, kNot2_e, kFr_o, mFn_e, kF1_e, kFn_e, mFnK_e, kK1_e, v2_e, kK2_e, mMut_e, kMu_e, mMut0_e, oM_e, kMut_e, pNone_e, pSome_e, kPs_e, mCut_e, kCt1_e, kCt2_e, oC3_e, kCt3_e, fM_e, endF_n, endF_r, dAdd_i, dAdd_s, dAdd_l, dAdd_t, dSub_i, dMul_i, dDiv_i, dMod_i, dPow_i, dLt_i, dLe_i, dGt_i, dGe_i, dLt_s, dEq_i, dEq_b, dEq_s, dNe_i, dNe_b, dNe_s, dInt_i, dAbs_i, dLen_l, dLen_r, dLen_t, dLen_s, dIx_l, dIx_r, dIx_t, dList_l, dList_r, dList_t, dTuple_l, dTuple_t, dDispL_e, dDispT_e, dIsN_n, dNotN_n, dIsN_bool, dNotN_bool, dIsN_int, dNotN_int, dIsN_str, dNotN_str, dIsN_lst, dNotN_lst, dIsN_tup, dNotN_tup, dIsi_non, dIsiT_non, dIsi_bool, dIsiT_bool, dIsi_int, dIsiT_int, dIsi_str, dIsiT_str, dIsi_lst, dIsiT_lst, dIsi_rol, dIsiT_rol, dIsi_tup, dIsiT_tup, mChain_e, kH1_e, kH2_e, kH3_t, kH3_f, kH4_e, mM1_e, kM1_e, kM2_e, kM3_e, mJs_n, mJs_c, kJ_e, dFmt_s, dNeg_i, dDivmod_e, dMax2_e, dMin2_e, dCut_l, dCut_r, dCut_t, dCut_s, dPop_e, fApp_e, List.getElem?_cons_zero, List.getElem?_cons_succ, List.set_cons_zero, List.set_cons_succ, Option.bind_some, Option.bind_none, Option.map_some, Option.map_none, List.map_cons, List.map_nil, List.length_cons, List.length_nil, List.replicate, List.cons_append, List.nil_append, List.set_set, if_true, if_false, ite_true, ite_false, reduceIte, Nat.reduceAdd, Nat.reduceSub, Nat.zero_add, Nat.add_zero, Bool.not_true, Bool.not_false, decide_true, decide_false, Bool.true_and, Bool.and_true, Bool.false_and, Bool.and_false, Bool.or_true, Bool.true_or, Bool.or_false, Bool.false_or, eq_self]
  | int i => simp only [f__law_group_so, m__law_group_so, tyIs, grp, b_ok, b_bad, b_ex, f_ok, f_bad, f_ex, n_nx, n_rt, n_bk, n_ct, n_ex, n_bad, l_nx, l_rt, l_bk, l_ct, l_ex, l_bad, sNx_e, sSeq_e, sBk_e, sCt_e, sRetN_e, sExp_e, kExp_e, sRet_e, kRet_e, sIf_e, kIf_t, kIf_f, sSet_e, kSet_e, svOf_t, svOf_f, sSetC_e, kCell_e, sAsg_e, kG1_e, oF_s, oF_n, gN_e, gT_e, gsNil_e, gsCons_e, sPar_e, kPar1_e, kPar2_e, sPar3_e, kPr1_e, kPr2_e, kPr3_e, sPut_e, kPut1_e, kPut2_e, isLst_l, kPut_e, kPt_e, kPu_e, plGet_e, pG_o, pG_c, plS_e, pS_o, pS_f, plC_e, pC_o, pC_c, mFr_e, kFz_e, mVar_e, kVar_f, kVar_o, mMov_e, kMov_f, kMov_o, mBw_e, kBw_f, kBw_o, mCon_e, mOf_e, kOf_e, o2_e, m2_e, k2a_e, k2b_e, kDB_s, kDB_n, fl_e, m1_e, k1a_e, get_dv, get_bw, sv_f, sv_o, sv_n, de_cell, de_non, de_bool, de_int, de_str, de_fn, de_rol, de_lst, de_tup, de_dct, de_dtt, de_ins, mCB_e, kCB_e, getAll_n, getAll_c, g2_e, mVals_e, kVl_e, vals_n, vals_c, aNil_e, aCons_e, kC1_e, kC2_e, mT_e, kTb_e, tAnd_e, kAn_t, kAn_f, tOr_e, kOr_t, kOr_f, tNot_e, kNt_e, mTru_e, kTr_e, kO_s, dTru_b, mIf_e, kIfe_t, kIfe_f, mAnd_e, kAnd_t, kAnd_f, mOr_e, kOr2_t, kOr2_f, mNot_e, kNot2_e, kFr_o, mFn_e, kF1_e, kFn_e, mFnK_e, kK1_e, v2_e, kK2_e, mMut_e, kMu_e, mMut0_e, oM_e, kMut_e, pNone_e, pSome_e, kPs_e, mCut_e, kCt1_e, kCt2_e, oC3_e, kCt3_e, fM_e, endF_n, endF_r, dAdd_i, dAdd_s, dAdd_l, dAdd_t, dSub_i, dMul_i, dDiv_i, dMod_i, dPow_i, dLt_i, dLe_i, dGt_i, dGe_i, dLt_s, dEq_i, dEq_b, dEq_s, dNe_i, dNe_b, dNe_s, dInt_i, dAbs_i, dLen_l, dLen_r, dLen_t, dLen_s, dIx_l, dIx_r, dIx_t, dList_l, dList_r, dList_t, dTuple_l, dTuple_t, dDispL_e, dDispT_e, dIsN_n, dNotN_n, dIsN_bool, dNotN_bool, dIsN_int, dNotN_int, dIsN_str, dNotN_str, dIsN_lst, dNotN_lst, dIsN_tup, dNotN_tup, dIsi_non, dIsiT_non, dIsi_bool, dIsiT_bool, dIsi_int, dIsiT_int, dIsi_str, dIsiT_str, dIsi_lst, dIsiT_lst, dIsi_rol, dIsiT_rol, dIsi_tup, dIsiT_tup, mChain_e, kH1_e, kH2_e, kH3_t, kH3_f, kH4_e, mM1_e, kM1_e, kM2_e, kM3_e, mJs_n, mJs_c, kJ_e, dFmt_s, dNeg_i, dDivmod_e, dMax2_e, dMin2_e, dCut_l, dCut_r, dCut_t, dCut_s, dPop_e, fApp_e, List.getElem?_cons_zero, List.getElem?_cons_succ, List.set_cons_zero, List.set_cons_succ, Option.bind_some, Option.bind_none, Option.map_some, Option.map_none, List.map_cons, List.map_nil, List.length_cons, List.length_nil, List.replicate, List.cons_append, List.nil_append, List.set_set, if_true, if_false, ite_true, ite_false, reduceIte, Nat.reduceAdd, Nat.reduceSub, Nat.zero_add, Nat.add_zero, Bool.not_true, Bool.not_false, decide_true, decide_false, Bool.true_and, Bool.and_true, Bool.false_and, Bool.and_false, Bool.or_true, Bool.true_or, Bool.or_false, Bool.false_or, eq_self]
  | lst h1 h2 => simp only [f__law_group_so, m__law_group_so, tyIs, grp, b_ok, b_bad, b_ex, f_ok, f_bad, f_ex, n_nx, n_rt, n_bk, n_ct, n_ex, n_bad, l_nx, l_rt, l_bk, l_ct, l_ex, l_bad, sNx_e, sSeq_e, sBk_e, sCt_e, sRetN_e, sExp_e, kExp_e, sRet_e, kRet_e, sIf_e, kIf_t, kIf_f, sSet_e, kSet_e, svOf_t, svOf_f, sSetC_e, kCell_e, sAsg_e, kG1_e, oF_s, oF_n, gN_e, gT_e, gsNil_e, gsCons_e, sPar_e, kPar1_e, kPar2_e, sPar3_e, kPr1_e, kPr2_e, kPr3_e, sPut_e, kPut1_e, kPut2_e, isLst_l, kPut_e, kPt_e, kPu_e, plGet_e, pG_o, pG_c, plS_e, pS_o, pS_f, plC_e, pC_o, pC_c, mFr_e, kFz_e, mVar_e, kVar_f, kVar_o, mMov_e, kMov_f, kMov_o, mBw_e, kBw_f, kBw_o, mCon_e, mOf_e, kOf_e, o2_e, m2_e, k2a_e, k2b_e, kDB_s, kDB_n, fl_e, m1_e, k1a_e, get_dv, get_bw, sv_f, sv_o, sv_n, de_cell, de_non, de_bool, de_int, de_str, de_fn, de_rol, de_lst, de_tup, de_dct, de_dtt, de_ins, mCB_e, kCB_e, getAll_n, getAll_c, g2_e, mVals_e, kVl_e, vals_n, vals_c, aNil_e, aCons_e, kC1_e, kC2_e, mT_e, kTb_e, tAnd_e, kAn_t, kAn_f, tOr_e, kOr_t, kOr_f, tNot_e, kNt_e, mTru_e, kTr_e, kO_s, dTru_b, mIf_e, kIfe_t, kIfe_f, mAnd_e, kAnd_t, kAnd_f, mOr_e, kOr2_t, kOr2_f, mNot_e, kNot2_e, kFr_o, mFn_e, kF1_e, kFn_e, mFnK_e, kK1_e, v2_e, kK2_e, mMut_e, kMu_e, mMut0_e, oM_e, kMut_e, pNone_e, pSome_e, kPs_e, mCut_e, kCt1_e, kCt2_e, oC3_e, kCt3_e, fM_e, endF_n, endF_r, dAdd_i, dAdd_s, dAdd_l, dAdd_t, dSub_i, dMul_i, dDiv_i, dMod_i, dPow_i, dLt_i, dLe_i, dGt_i, dGe_i, dLt_s, dEq_i, dEq_b, dEq_s, dNe_i, dNe_b, dNe_s, dInt_i, dAbs_i, dLen_l, dLen_r, dLen_t, dLen_s, dIx_l, dIx_r, dIx_t, dList_l, dList_r, dList_t, dTuple_l, dTuple_t, dDispL_e, dDispT_e, dIsN_n, dNotN_n, dIsN_bool, dNotN_bool, dIsN_int, dNotN_int, dIsN_str, dNotN_str, dIsN_lst, dNotN_lst, dIsN_tup, dNotN_tup, dIsi_non, dIsiT_non, dIsi_bool, dIsiT_bool, dIsi_int, dIsiT_int, dIsi_str, dIsiT_str, dIsi_lst, dIsiT_lst, dIsi_rol, dIsiT_rol, dIsi_tup, dIsiT_tup, mChain_e, kH1_e, kH2_e, kH3_t, kH3_f, kH4_e, mM1_e, kM1_e, kM2_e, kM3_e, mJs_n, mJs_c, kJ_e, dFmt_s, dNeg_i, dDivmod_e, dMax2_e, dMin2_e, dCut_l, dCut_r, dCut_t, dCut_s, dPop_e, fApp_e, List.getElem?_cons_zero, List.getElem?_cons_succ, List.set_cons_zero, List.set_cons_succ, Option.bind_some, Option.bind_none, Option.map_some, Option.map_none, List.map_cons, List.map_nil, List.length_cons, List.length_nil, List.replicate, List.cons_append, List.nil_append, List.set_set, if_true, if_false, ite_true, ite_false, reduceIte, Nat.reduceAdd, Nat.reduceSub, Nat.zero_add, Nat.add_zero, Bool.not_true, Bool.not_false, decide_true, decide_false, Bool.true_and, Bool.and_true, Bool.false_and, Bool.and_false, Bool.or_true, Bool.true_or, Bool.or_false, Bool.false_or, eq_self]
end KW

set_option Elab.async false
set_option linter.all false
set_option maxRecDepth 100000
namespace KW
open PySem PySem.Spec L2 EV
open PyProof.Rows hiding St
theorem same_b {n : Nat} {b : Bool} {c : CL} : f__law_same (n + 1) [.bool b, .bool b] c = .ok (.bool true, false) [] c := by
  simp only [f__law_same, m__law_same, tyIs, List.any_cons, List.any_nil, b_ok, b_bad, b_ex, f_ok, f_bad, f_ex, n_nx, n_rt, n_bk, n_ct, n_ex, n_bad, l_nx, l_rt, l_bk, l_ct, l_ex, l_bad, sNx_e, sSeq_e, sBk_e, sCt_e, sRetN_e, sExp_e, kExp_e, sRet_e, kRet_e, sIf_e, kIf_t, kIf_f, sSet_e, kSet_e, svOf_t, svOf_f, sSetC_e, kCell_e, sAsg_e, kG1_e, oF_s, oF_n, gN_e, gT_e, gsNil_e, gsCons_e, sPar_e, kPar1_e, kPar2_e, sPar3_e, kPr1_e, kPr2_e, kPr3_e, sPut_e, kPut1_e, kPut2_e, isLst_l, kPut_e, kPt_e, kPu_e, plGet_e, pG_o, pG_c, plS_e, pS_o, pS_f, plC_e, pC_o, pC_c, mFr_e, kFz_e, mVar_e, kVar_f, kVar_o, mMov_e, kMov_f, kMov_o, mBw_e, kBw_f, kBw_o, mCon_e, mOf_e, kOf_e, o2_e, m2_e, k2a_e, k2b_e, kDB_s, kDB_n, fl_e, m1_e, k1a_e, get_dv, get_bw, sv_f, sv_o, sv_n, de_cell, de_non, de_bool, de_int, de_str, de_fn, de_rol, de_lst, de_tup, de_dct, de_dtt, de_ins, mCB_e, kCB_e, getAll_n, getAll_c, g2_e, mVals_e, kVl_e, vals_n, vals_c, aNil_e, aCons_e, kC1_e, kC2_e, mT_e, kTb_e, tAnd_e, kAn_t, kAn_f, tOr_e, kOr_t, kOr_f, tNot_e, kNt_e, mTru_e, kTr_e, kO_s, dTru_b, mIf_e, kIfe_t, kIfe_f, mAnd_e, kAnd_t, kAnd_f, mOr_e, kOr2_t, kOr2_f, mNot_e, kNot2_e, kFr_o, mFn_e, kF1_e, kFn_e, mFnK_e, kK1_e, v2_e, kK2_e, mMut_e, kMu_e, mMut0_e, oM_e, kMut_e, pNone_e, pSome_e, kPs_e, mCut_e, kCt1_e, kCt2_e, oC3_e, kCt3_e, fM_e, endF_n, endF_r, dAdd_i, dAdd_s, dAdd_l, dAdd_t, dSub_i, dMul_i, dDiv_i, dMod_i, dPow_i, dLt_i, dLe_i, dGt_i, dGe_i, dLt_s, dEq_i, dEq_b, dEq_s, dNe_i, dNe_b, dNe_s, dInt_i, dAbs_i, dLen_l, dLen_r, dLen_t, dLen_s, dIx_l, dIx_r, dIx_t, dList_l, dList_r, dList_t, dTuple_l, dTuple_t, dDispL_e, dDispT_e, dIsN_n, dNotN_n, dIsN_bool, dNotN_bool, dIsN_int, dNotN_int, dIsN_str, dNotN_str, dIsN_lst, dNotN_lst, dIsN_tup, dNotN_tup, dIsi_non, dIsiT_non, dIsi_bool, dIsiT_bool, dIsi_int, dIsiT_int, dIsi_str, dIsiT_str, dIsi_lst, dIsiT_lst, dIsi_rol, dIsiT_rol, dIsi_tup, dIsiT_tup, mChain_e, kH1_e, kH2_e, kH3_t, kH3_f, kH4_e, mM1_e, kM1_e, kM2_e, kM3_e, mJs_n, mJs_c, kJ_e, dFmt_s, dNeg_i, dDivmod_e, dMax2_e, dMin2_e, dCut_l, dCut_r, dCut_t, dCut_s, dPop_e, fApp_e, List.getElem?_cons_zero, List.getElem?_cons_succ, List.set_cons_zero, List.set_cons_succ, Option.bind_some, Option.bind_none, Option.map_some, Option.map_none, List.map_cons, List.map_nil, List.length_cons, List.length_nil, List.replicate, List.cons_append, List.nil_append, List.set_set, if_true, if_false, ite_true, ite_false, reduceIte, Nat.reduceAdd, Nat.reduceSub, Nat.zero_add, Nat.add_zero, Bool.not_true, Bool.not_false, decide_true, decide_false, Bool.true_and, Bool.and_true, Bool.false_and, Bool.and_false, Bool.or_true, Bool.true_or, Bool.or_false, Bool.false_or, eq_self]
theorem same_s {n : Nat} {x : Str} {c : CL} : f__law_same (n + 1) [.str x, .str x] c = .ok (.bool true, false) [] c := by
  simp only [f__law_same, m__law_same, tyIs, List.any_cons, List.any_nil, b_ok, b_bad, b_ex, f_ok, f_bad, f_ex, n_nx, n_rt, n_bk, n_ct, n_ex, n_bad, l_nx, l_rt, l_bk, l_ct, l_ex, l_bad, sNx_e, sSeq_e, sBk_e, sCt_e, sRetN_e, sExp_e, kExp_e, sRet_e, kRet_e, sIf_e, kIf_t, kIf_f, sSet_e, kSet_e, svOf_t, svOf_f, sSetC_e, kCell_e, sAsg_e, kG1_e, oF_s, oF_n, gN_e, gT_e, gsNil_e, gsCons_e, sPar_e, kPar1_e, kPar2_e, sPar3_e, kPr1_e, kPr2_e, kPr3_e, sPut_e, kPut1_e, kPut2_e, isLst_l, kPut_e, kPt_e, kPu_e, plGet_e, pG_o, pG_c, plS_e, pS_o, pS_f, plC_e, pC_o, pC_c, mFr_e, kFz_e, mVar_e, kVar_f, kVar_o, mMov_e, kMov_f, kMov_o, mBw_e, kBw_f, kBw_o, mCon_e, mOf_e, kOf_e, o2_e, m2_e, k2a_e, k2b_e, kDB_s, kDB_n, fl_e, m1_e, k1a_e, get_dv, get_bw, sv_f, sv_o, sv_n, de_cell, de_non, de_bool, de_int, de_str, de_fn, de_rol, de_lst, de_tup, de_dct, de_dtt, de_ins, mCB_e, kCB_e, getAll_n, getAll_c, g2_e, mVals_e, kVl_e, vals_n, vals_c, aNil_e, aCons_e, kC1_e, kC2_e, mT_e, kTb_e, tAnd_e, kAn_t, kAn_f, tOr_e, kOr_t, kOr_f, tNot_e, kNt_e, mTru_e, kTr_e, kO_s, dTru_b, mIf_e, kIfe_t, kIfe_f, mAnd_e, kAnd_t, kAnd_f, mOr_e, kOr2_t, kOr2_f, mNot_e, kNot2_e, kFr_o, mFn_e, kF1_e, kFn_e, mFnK_e, kK1_e, v2_e, kK2_e, mMut_e, kMu_e, mMut0_e, oM_e, kMut_e, pNone_e, pSome_e, kPs_e, mCut_e, kCt1_e, kCt2_e, oC3_e, kCt3_e, fM_e, endF_n, endF_r, dAdd_i, dAdd_s, dAdd_l, dAdd_t, dSub_i, dMul_i, dDiv_i, dMod_i, dPow_i, dLt_i, dLe_i, dGt_i, dGe_i, dLt_s, dEq_i, dEq_b, dEq_s, dNe_i, dNe_b, dNe_s, dInt_i, dAbs_i, dLen_l, dLen_r, dLen_t, dLen_s, dIx_l, dIx_r, dIx_t, dList_l, dList_r, dList_t, dTuple_l, dTuple_t, dDispL_e, dDispT_e, dIsN_n, dNotN_n, dIsN_bool, dNotN_bool, dIsN_int, dNotN_int, dIsN_str, dNotN_str, dIsN_lst, dNotN_lst, dIsN_tup, dNotN_tup, dIsi_non, dIsiT_non, dIsi_bool, dIsiT_bool, dIsi_int, dIsiT_int, dIsi_str, dIsiT_str, dIsi_lst, dIsiT_lst, dIsi_rol, dIsiT_rol, dIsi_tup, dIsiT_tup, mChain_e, kH1_e, kH2_e, kH3_t, kH3_f, kH4_e, mM1_e, kM1_e, kM2_e, kM3_e, mJs_n, mJs_c, kJ_e, dFmt_s, dNeg_i, dDivmod_e, dMax2_e, dMin2_e, dCut_l, dCut_r, dCut_t, dCut_s, dPop_e, fApp_e, List.getElem?_cons_zero, List.getElem?_cons_succ, List.set_cons_zero, List.set_cons_succ, Option.bind_some, Option.bind_none, Option.map_some, Option.map_none, List.map_cons, List.map_nil, List.length_cons, List.length_nil, List.replicate, List.cons_append, List.nil_append, List.set_set, if_true, if_false, ite_true, ite_false, reduceIte, Nat.reduceAdd, Nat.reduceSub, Nat.zero_add, Nat.add_zero, Bool.not_true, Bool.not_false, decide_true, decide_false, Bool.true_and, Bool.and_true, Bool.false_and, Bool.and_false, Bool.or_true, Bool.true_or, Bool.or_false, Bool.false_or, eq_self]
def Sm (d : EV.D) : Prop := (∃ b, d = .bool b) ∨ ∃ x, d = .str x
theorem same_1 {n : Nat} {d : EV.D} {c : CL} (h : Sm d) : f__law_same (n + 1) [d, d] c = .ok (.bool true, false) [] c := by
  rcases h with ⟨b, rfl⟩ | ⟨x, rfl⟩
  · exact same_b
  · exact same_s
theorem zip_mem {ds : List EV.D} {d : EV.D} (h : d ∈ zipD ds ds) : ∃ x ∈ ds, d = .tup [x, x] := by
  unfold zipD at h
  induction ds with
  | nil => cases h
  | cons x xs ih =>
    rcases List.mem_cons.mp h with h | h
    · exact ⟨x, List.mem_cons_self .., h⟩
    · obtain ⟨y, h1, h2⟩ := ih h
      exact ⟨y, List.mem_cons_of_mem _ h1, h2⟩
theorem zip_len {ds : List EV.D} : (zipD ds ds).length = ds.length := by
  unfold zipD
  rw [List.length_zipWith]
  omega
theorem same_l {n : Nat} {ds : List EV.D} {c : CL} (h : ∀ d ∈ ds, Sm d) (hz : ds.length ≤ 1000) : f__law_same (n + 2) [.lst ds, .lst ds] c = .ok (.bool true, false) [] c := by
  have lc : mLc (iZp (aCons (mOf (mVar 0)) (aCons (mOf (mVar 1)) aNil))) (gT 2 (gsCons (gN 2) (gsCons (gN 3) gsNil))) tYesM (mFn 2 (f__law_same (n + 1)) (aCons (mOf (mVar 2)) (aCons (mOf (mVar 3)) aNil))) [2, 3] [.fz (.lst ds), .fz (.lst ds), .no, .no] c
      = .ok (.lst ((zipD ds ds).map fun d => .bool ((fun _ => true) d)), true) [.fz (.lst ds), .fz (.lst ds), .no, .no] c := by
    have := mLc_pure (s := [.fz (.lst ds), .fz (.lst ds), .no, .no]) (s1 := [.fz (.lst ds), .fz (.lst ds), .no, .no]) (c := c) (c1 := c) (mi := iZp (aCons (mOf (mVar 0)) (aCons (mOf (mVar 1)) aNil))) (g := gT 2 (gsCons (gN 2) (gsCons (gN 3) gsNil))) (t := tYesM)
      (m := mFn 2 (f__law_same (n + 1)) (aCons (mOf (mVar 2)) (aCons (mOf (mVar 3)) aNil))) (vs := [2, 3]) (p := fun _ => true) (q := fun d => .bool ((fun _ => true) d)) (ds := zipD ds ds)
      (iZp_e (s1 := [.fz (.lst ds), .fz (.lst ds), .no, .no]) (c1 := c) (ods := [.dv (.lst ds), .dv (.lst ds)]) (by simp only [b_ok, b_bad, b_ex, f_ok, f_bad, f_ex, n_nx, n_rt, n_bk, n_ct, n_ex, n_bad, l_nx, l_rt, l_bk, l_ct, l_ex, l_bad, sNx_e, sSeq_e, sBk_e, sCt_e, sRetN_e, sExp_e, kExp_e, sRet_e, kRet_e, sIf_e, kIf_t, kIf_f, sSet_e, kSet_e, svOf_t, svOf_f, sSetC_e, kCell_e, sAsg_e, kG1_e, oF_s, oF_n, gN_e, gT_e, gsNil_e, gsCons_e, sPar_e, kPar1_e, kPar2_e, sPar3_e, kPr1_e, kPr2_e, kPr3_e, sPut_e, kPut1_e, kPut2_e, isLst_l, kPut_e, kPt_e, kPu_e, plGet_e, pG_o, pG_c, plS_e, pS_o, pS_f, plC_e, pC_o, pC_c, mFr_e, kFz_e, mVar_e, kVar_f, kVar_o, mMov_e, kMov_f, kMov_o, mBw_e, kBw_f, kBw_o, mCon_e, mOf_e, kOf_e, o2_e, m2_e, k2a_e, k2b_e, kDB_s, kDB_n, fl_e, m1_e, k1a_e, get_dv, get_bw, sv_f, sv_o, sv_n, de_cell, de_non, de_bool, de_int, de_str, de_fn, de_rol, de_lst, de_tup, de_dct, de_dtt, de_ins, mCB_e, kCB_e, getAll_n, getAll_c, g2_e, mVals_e, kVl_e, vals_n, vals_c, aNil_e, aCons_e, kC1_e, kC2_e, mT_e, kTb_e, tAnd_e, kAn_t, kAn_f, tOr_e, kOr_t, kOr_f, tNot_e, kNt_e, mTru_e, kTr_e, kO_s, dTru_b, mIf_e, kIfe_t, kIfe_f, mAnd_e, kAnd_t, kAnd_f, mOr_e, kOr2_t, kOr2_f, mNot_e, kNot2_e, kFr_o, mFn_e, kF1_e, kFn_e, mFnK_e, kK1_e, v2_e, kK2_e, mMut_e, kMu_e, mMut0_e, oM_e, kMut_e, pNone_e, pSome_e, kPs_e, mCut_e, kCt1_e, kCt2_e, oC3_e, kCt3_e, fM_e, endF_n, endF_r, dAdd_i, dAdd_s, dAdd_l, dAdd_t, dSub_i, dMul_i, dDiv_i, dMod_i, dPow_i, dLt_i, dLe_i, dGt_i, dGe_i, dLt_s, dEq_i, dEq_b, dEq_s, dNe_i, dNe_b, dNe_s, dInt_i, dAbs_i, dLen_l, dLen_r, dLen_t, dLen_s, dIx_l, dIx_r, dIx_t, dList_l, dList_r, dList_t, dTuple_l, dTuple_t, dDispL_e, dDispT_e, dIsN_n, dNotN_n, dIsN_bool, dNotN_bool, dIsN_int, dNotN_int, dIsN_str, dNotN_str, dIsN_lst, dNotN_lst, dIsN_tup, dNotN_tup, dIsi_non, dIsiT_non, dIsi_bool, dIsiT_bool, dIsi_int, dIsiT_int, dIsi_str, dIsiT_str, dIsi_lst, dIsiT_lst, dIsi_rol, dIsiT_rol, dIsi_tup, dIsiT_tup, mChain_e, kH1_e, kH2_e, kH3_t, kH3_f, kH4_e, mM1_e, kM1_e, kM2_e, kM3_e, mJs_n, mJs_c, kJ_e, dFmt_s, dNeg_i, dDivmod_e, dMax2_e, dMin2_e, dCut_l, dCut_r, dCut_t, dCut_s, dPop_e, fApp_e, List.getElem?_cons_zero, List.getElem?_cons_succ, List.set_cons_zero, List.set_cons_succ, Option.bind_some, Option.bind_none, Option.map_some, Option.map_none, List.map_cons, List.map_nil, List.length_cons, List.length_nil, List.replicate, List.cons_append, List.nil_append, List.set_set, if_true, if_false, ite_true, ite_false, reduceIte, Nat.reduceAdd, Nat.reduceSub, Nat.zero_add, Nat.add_zero, Bool.not_true, Bool.not_false, decide_true, decide_false, Bool.true_and, Bool.and_true, Bool.false_and, Bool.and_false, Bool.or_true, Bool.true_or, Bool.or_false, Bool.false_or, eq_self]) (by simp only [b_ok, b_bad, b_ex, f_ok, f_bad, f_ex, n_nx, n_rt, n_bk, n_ct, n_ex, n_bad, l_nx, l_rt, l_bk, l_ct, l_ex, l_bad, sNx_e, sSeq_e, sBk_e, sCt_e, sRetN_e, sExp_e, kExp_e, sRet_e, kRet_e, sIf_e, kIf_t, kIf_f, sSet_e, kSet_e, svOf_t, svOf_f, sSetC_e, kCell_e, sAsg_e, kG1_e, oF_s, oF_n, gN_e, gT_e, gsNil_e, gsCons_e, sPar_e, kPar1_e, kPar2_e, sPar3_e, kPr1_e, kPr2_e, kPr3_e, sPut_e, kPut1_e, kPut2_e, isLst_l, kPut_e, kPt_e, kPu_e, plGet_e, pG_o, pG_c, plS_e, pS_o, pS_f, plC_e, pC_o, pC_c, mFr_e, kFz_e, mVar_e, kVar_f, kVar_o, mMov_e, kMov_f, kMov_o, mBw_e, kBw_f, kBw_o, mCon_e, mOf_e, kOf_e, o2_e, m2_e, k2a_e, k2b_e, kDB_s, kDB_n, fl_e, m1_e, k1a_e, get_dv, get_bw, sv_f, sv_o, sv_n, de_cell, de_non, de_bool, de_int, de_str, de_fn, de_rol, de_lst, de_tup, de_dct, de_dtt, de_ins, mCB_e, kCB_e, getAll_n, getAll_c, g2_e, mVals_e, kVl_e, vals_n, vals_c, aNil_e, aCons_e, kC1_e, kC2_e, mT_e, kTb_e, tAnd_e, kAn_t, kAn_f, tOr_e, kOr_t, kOr_f, tNot_e, kNt_e, mTru_e, kTr_e, kO_s, dTru_b, mIf_e, kIfe_t, kIfe_f, mAnd_e, kAnd_t, kAnd_f, mOr_e, kOr2_t, kOr2_f, mNot_e, kNot2_e, kFr_o, mFn_e, kF1_e, kFn_e, mFnK_e, kK1_e, v2_e, kK2_e, mMut_e, kMu_e, mMut0_e, oM_e, kMut_e, pNone_e, pSome_e, kPs_e, mCut_e, kCt1_e, kCt2_e, oC3_e, kCt3_e, fM_e, endF_n, endF_r, dAdd_i, dAdd_s, dAdd_l, dAdd_t, dSub_i, dMul_i, dDiv_i, dMod_i, dPow_i, dLt_i, dLe_i, dGt_i, dGe_i, dLt_s, dEq_i, dEq_b, dEq_s, dNe_i, dNe_b, dNe_s, dInt_i, dAbs_i, dLen_l, dLen_r, dLen_t, dLen_s, dIx_l, dIx_r, dIx_t, dList_l, dList_r, dList_t, dTuple_l, dTuple_t, dDispL_e, dDispT_e, dIsN_n, dNotN_n, dIsN_bool, dNotN_bool, dIsN_int, dNotN_int, dIsN_str, dNotN_str, dIsN_lst, dNotN_lst, dIsN_tup, dNotN_tup, dIsi_non, dIsiT_non, dIsi_bool, dIsiT_bool, dIsi_int, dIsiT_int, dIsi_str, dIsiT_str, dIsi_lst, dIsiT_lst, dIsi_rol, dIsiT_rol, dIsi_tup, dIsiT_tup, mChain_e, kH1_e, kH2_e, kH3_t, kH3_f, kH4_e, mM1_e, kM1_e, kM2_e, kM3_e, mJs_n, mJs_c, kJ_e, dFmt_s, dNeg_i, dDivmod_e, dMax2_e, dMin2_e, dCut_l, dCut_r, dCut_t, dCut_s, dPop_e, fApp_e, List.getElem?_cons_zero, List.getElem?_cons_succ, List.set_cons_zero, List.set_cons_succ, Option.bind_some, Option.bind_none, Option.map_some, Option.map_none, List.map_cons, List.map_nil, List.length_cons, List.length_nil, List.replicate, List.cons_append, List.nil_append, List.set_set, if_true, if_false, ite_true, ite_false, reduceIte, Nat.reduceAdd, Nat.reduceSub, Nat.zero_add, Nat.add_zero, Bool.not_true, Bool.not_false, decide_true, decide_false, Bool.true_and, Bool.and_true, Bool.false_and, Bool.and_false, Bool.or_true, Bool.true_or, Bool.or_false, Bool.false_or, eq_self])) (by
        have : sizeLine = 16777216 := sizeLine_eq
        rw [zip_len]
        omega) fun e he => by
        obtain ⟨x, hx, rfl⟩ := zip_mem he
        have sx := same_1 (n := n) (c := c) (h x hx)
        refine ⟨[.fz (.lst ds), .fz (.lst ds), .fz x, .fz x], ?_, ?_, rfl, fun _ => ⟨false, ?_⟩⟩
        · simp only [swipe, b_ok, b_bad, b_ex, f_ok, f_bad, f_ex, n_nx, n_rt, n_bk, n_ct, n_ex, n_bad, l_nx, l_rt, l_bk, l_ct, l_ex, l_bad, sNx_e, sSeq_e, sBk_e, sCt_e, sRetN_e, sExp_e, kExp_e, sRet_e, kRet_e, sIf_e, kIf_t, kIf_f, sSet_e, kSet_e, svOf_t, svOf_f, sSetC_e, kCell_e, sAsg_e, kG1_e, oF_s, oF_n, gN_e, gT_e, gsNil_e, gsCons_e, sPar_e, kPar1_e, kPar2_e, sPar3_e, kPr1_e, kPr2_e, kPr3_e, sPut_e, kPut1_e, kPut2_e, isLst_l, kPut_e, kPt_e, kPu_e, plGet_e, pG_o, pG_c, plS_e, pS_o, pS_f, plC_e, pC_o, pC_c, mFr_e, kFz_e, mVar_e, kVar_f, kVar_o, mMov_e, kMov_f, kMov_o, mBw_e, kBw_f, kBw_o, mCon_e, mOf_e, kOf_e, o2_e, m2_e, k2a_e, k2b_e, kDB_s, kDB_n, fl_e, m1_e, k1a_e, get_dv, get_bw, sv_f, sv_o, sv_n, de_cell, de_non, de_bool, de_int, de_str, de_fn, de_rol, de_lst, de_tup, de_dct, de_dtt, de_ins, mCB_e, kCB_e, getAll_n, getAll_c, g2_e, mVals_e, kVl_e, vals_n, vals_c, aNil_e, aCons_e, kC1_e, kC2_e, mT_e, kTb_e, tAnd_e, kAn_t, kAn_f, tOr_e, kOr_t, kOr_f, tNot_e, kNt_e, mTru_e, kTr_e, kO_s, dTru_b, mIf_e, kIfe_t, kIfe_f, mAnd_e, kAnd_t, kAnd_f, mOr_e, kOr2_t, kOr2_f, mNot_e, kNot2_e, kFr_o, mFn_e, kF1_e, kFn_e, mFnK_e, kK1_e, v2_e, kK2_e, mMut_e, kMu_e, mMut0_e, oM_e, kMut_e, pNone_e, pSome_e, kPs_e, mCut_e, kCt1_e, kCt2_e, oC3_e, kCt3_e, fM_e, endF_n, endF_r, dAdd_i, dAdd_s, dAdd_l, dAdd_t, dSub_i, dMul_i, dDiv_i, dMod_i, dPow_i, dLt_i, dLe_i, dGt_i, dGe_i, dLt_s, dEq_i, dEq_b, dEq_s, dNe_i, dNe_b, dNe_s, dInt_i, dAbs_i, dLen_l, dLen_r, dLen_t, dLen_s, dIx_l, dIx_r, dIx_t, dList_l, dList_r, dList_t, dTuple_l, dTuple_t, dDispL_e, dDispT_e, dIsN_n, dNotN_n, dIsN_bool, dNotN_bool, dIsN_int, dNotN_int, dIsN_str, dNotN_str, dIsN_lst, dNotN_lst, dIsN_tup, dNotN_tup, dIsi_non, dIsiT_non, dIsi_bool, dIsiT_bool, dIsi_int, dIsiT_int, dIsi_str, dIsiT_str, dIsi_lst, dIsiT_lst, dIsi_rol, dIsiT_rol, dIsi_tup, dIsiT_tup, mChain_e, kH1_e, kH2_e, kH3_t, kH3_f, kH4_e, mM1_e, kM1_e, kM2_e, kM3_e, mJs_n, mJs_c, kJ_e, dFmt_s, dNeg_i, dDivmod_e, dMax2_e, dMin2_e, dCut_l, dCut_r, dCut_t, dCut_s, dPop_e, fApp_e, List.getElem?_cons_zero, List.getElem?_cons_succ, List.set_cons_zero, List.set_cons_succ, Option.bind_some, Option.bind_none, Option.map_some, Option.map_none, List.map_cons, List.map_nil, List.length_cons, List.length_nil, List.replicate, List.cons_append, List.nil_append, List.set_set, if_true, if_false, ite_true, ite_false, reduceIte, Nat.reduceAdd, Nat.reduceSub, Nat.zero_add, Nat.add_zero, Bool.not_true, Bool.not_false, decide_true, decide_false, Bool.true_and, Bool.and_true, Bool.false_and, Bool.and_false, Bool.or_true, Bool.true_or, Bool.or_false, Bool.false_or, eq_self]
        · simp only [swipe, b_ok, b_bad, b_ex, f_ok, f_bad, f_ex, n_nx, n_rt, n_bk, n_ct, n_ex, n_bad, l_nx, l_rt, l_bk, l_ct, l_ex, l_bad, sNx_e, sSeq_e, sBk_e, sCt_e, sRetN_e, sExp_e, kExp_e, sRet_e, kRet_e, sIf_e, kIf_t, kIf_f, sSet_e, kSet_e, svOf_t, svOf_f, sSetC_e, kCell_e, sAsg_e, kG1_e, oF_s, oF_n, gN_e, gT_e, gsNil_e, gsCons_e, sPar_e, kPar1_e, kPar2_e, sPar3_e, kPr1_e, kPr2_e, kPr3_e, sPut_e, kPut1_e, kPut2_e, isLst_l, kPut_e, kPt_e, kPu_e, plGet_e, pG_o, pG_c, plS_e, pS_o, pS_f, plC_e, pC_o, pC_c, mFr_e, kFz_e, mVar_e, kVar_f, kVar_o, mMov_e, kMov_f, kMov_o, mBw_e, kBw_f, kBw_o, mCon_e, mOf_e, kOf_e, o2_e, m2_e, k2a_e, k2b_e, kDB_s, kDB_n, fl_e, m1_e, k1a_e, get_dv, get_bw, sv_f, sv_o, sv_n, de_cell, de_non, de_bool, de_int, de_str, de_fn, de_rol, de_lst, de_tup, de_dct, de_dtt, de_ins, mCB_e, kCB_e, getAll_n, getAll_c, g2_e, mVals_e, kVl_e, vals_n, vals_c, aNil_e, aCons_e, kC1_e, kC2_e, mT_e, kTb_e, tAnd_e, kAn_t, kAn_f, tOr_e, kOr_t, kOr_f, tNot_e, kNt_e, mTru_e, kTr_e, kO_s, dTru_b, mIf_e, kIfe_t, kIfe_f, mAnd_e, kAnd_t, kAnd_f, mOr_e, kOr2_t, kOr2_f, mNot_e, kNot2_e, kFr_o, mFn_e, kF1_e, kFn_e, mFnK_e, kK1_e, v2_e, kK2_e, mMut_e, kMu_e, mMut0_e, oM_e, kMut_e, pNone_e, pSome_e, kPs_e, mCut_e, kCt1_e, kCt2_e, oC3_e, kCt3_e, fM_e, endF_n, endF_r, dAdd_i, dAdd_s, dAdd_l, dAdd_t, dSub_i, dMul_i, dDiv_i, dMod_i, dPow_i, dLt_i, dLe_i, dGt_i, dGe_i, dLt_s, dEq_i, dEq_b, dEq_s, dNe_i, dNe_b, dNe_s, dInt_i, dAbs_i, dLen_l, dLen_r, dLen_t, dLen_s, dIx_l, dIx_r, dIx_t, dList_l, dList_r, dList_t, dTuple_l, dTuple_t, dDispL_e, dDispT_e, dIsN_n, dNotN_n, dIsN_bool, dNotN_bool, dIsN_int, dNotN_int, dIsN_str, dNotN_str, dIsN_lst, dNotN_lst, dIsN_tup, dNotN_tup, dIsi_non, dIsiT_non, dIsi_bool, dIsiT_bool, dIsi_int, dIsiT_int, dIsi_str, dIsiT_str, dIsi_lst, dIsiT_lst, dIsi_rol, dIsiT_rol, dIsi_tup, dIsiT_tup, mChain_e, kH1_e, kH2_e, kH3_t, kH3_f, kH4_e, mM1_e, kM1_e, kM2_e, kM3_e, mJs_n, mJs_c, kJ_e, dFmt_s, dNeg_i, dDivmod_e, dMax2_e, dMin2_e, dCut_l, dCut_r, dCut_t, dCut_s, dPop_e, fApp_e, List.getElem?_cons_zero, List.getElem?_cons_succ, List.set_cons_zero, List.set_cons_succ, Option.bind_some, Option.bind_none, Option.map_some, Option.map_none, List.map_cons, List.map_nil, List.length_cons, List.length_nil, List.replicate, List.cons_append, List.nil_append, List.set_set, if_true, if_false, ite_true, ite_false, reduceIte, Nat.reduceAdd, Nat.reduceSub, Nat.zero_add, Nat.add_zero, Bool.not_true, Bool.not_false, decide_true, decide_false, Bool.true_and, Bool.and_true, Bool.false_and, Bool.and_false, Bool.or_true, Bool.true_or, Bool.or_false, Bool.false_or, eq_self]
        · simp only [sx, b_ok, b_bad, b_ex, f_ok, f_bad, f_ex, n_nx, n_rt, n_bk, n_ct, n_ex, n_bad, l_nx, l_rt, l_bk, l_ct, l_ex, l_bad, sNx_e, sSeq_e, sBk_e, sCt_e, sRetN_e, sExp_e, kExp_e, sRet_e, kRet_e, sIf_e, kIf_t, kIf_f, sSet_e, kSet_e, svOf_t, svOf_f, sSetC_e, kCell_e, sAsg_e, kG1_e, oF_s, oF_n, gN_e, gT_e, gsNil_e, gsCons_e, sPar_e, kPar1_e, kPar2_e, sPar3_e, kPr1_e, kPr2_e, kPr3_e, sPut_e, kPut1_e, kPut2_e, isLst_l, kPut_e, kPt_e, kPu_e, plGet_e, pG_o, pG_c, plS_e, pS_o, pS_f, plC_e, pC_o, pC_c, mFr_e, kFz_e, mVar_e, kVar_f, kVar_o, mMov_e, kMov_f, kMov_o, mBw_e, kBw_f, kBw_o, mCon_e, mOf_e, kOf_e, o2_e, m2_e, k2a_e, k2b_e, kDB_s, kDB_n, fl_e, m1_e, k1a_e, get_dv, get_bw, sv_f, sv_o, sv_n, de_cell, de_non, de_bool, de_int, de_str, de_fn, de_rol, de_lst, de_tup, de_dct, de_dtt, de_ins, mCB_e, kCB_e, getAll_n, getAll_c, g2_e, mVals_e, kVl_e, vals_n, vals_c, aNil_e, aCons_e, kC1_e, kC2_e, mT_e, kTb_e, tAnd_e, kAn_t, kAn_f, tOr_e, kOr_t, kOr_f, tNot_e, kNt_e, mTru_e, kTr_e, kO_s, dTru_b, mIf_e, kIfe_t, kIfe_f, mAnd_e, kAnd_t, kAnd_f, mOr_e, kOr2_t, kOr2_f, mNot_e, kNot2_e, kFr_o, mFn_e, kF1_e, kFn_e, mFnK_e, kK1_e, v2_e, kK2_e, mMut_e, kMu_e, mMut0_e, oM_e, kMut_e, pNone_e, pSome_e, kPs_e, mCut_e, kCt1_e, kCt2_e, oC3_e, kCt3_e, fM_e, endF_n, endF_r, dAdd_i, dAdd_s, dAdd_l, dAdd_t, dSub_i, dMul_i, dDiv_i, dMod_i, dPow_i, dLt_i, dLe_i, dGt_i, dGe_i, dLt_s, dEq_i, dEq_b, dEq_s, dNe_i, dNe_b, dNe_s, dInt_i, dAbs_i, dLen_l, dLen_r, dLen_t, dLen_s, dIx_l, dIx_r, dIx_t, dList_l, dList_r, dList_t, dTuple_l, dTuple_t, dDispL_e, dDispT_e, dIsN_n, dNotN_n, dIsN_bool, dNotN_bool, dIsN_int, dNotN_int, dIsN_str, dNotN_str, dIsN_lst, dNotN_lst, dIsN_tup, dNotN_tup, dIsi_non, dIsiT_non, dIsi_bool, dIsiT_bool, dIsi_int, dIsiT_int, dIsi_str, dIsiT_str, dIsi_lst, dIsiT_lst, dIsi_rol, dIsiT_rol, dIsi_tup, dIsiT_tup, mChain_e, kH1_e, kH2_e, kH3_t, kH3_f, kH4_e, mM1_e, kM1_e, kM2_e, kM3_e, mJs_n, mJs_c, kJ_e, dFmt_s, dNeg_i, dDivmod_e, dMax2_e, dMin2_e, dCut_l, dCut_r, dCut_t, dCut_s, dPop_e, fApp_e, List.getElem?_cons_zero, List.getElem?_cons_succ, List.set_cons_zero, List.set_cons_succ, Option.bind_some, Option.bind_none, Option.map_some, Option.map_none, List.map_cons, List.map_nil, List.length_cons, List.length_nil, List.replicate, List.cons_append, List.nil_append, List.set_set, if_true, if_false, ite_true, ite_false, reduceIte, Nat.reduceAdd, Nat.reduceSub, Nat.zero_add, Nat.add_zero, Bool.not_true, Bool.not_false, decide_true, decide_false, Bool.true_and, Bool.and_true, Bool.false_and, Bool.and_false, Bool.or_true, Bool.true_or, Bool.or_false, Bool.false_or, eq_self]
    rw [this, List.filter_eq_self.mpr fun _ _ => rfl]
    rfl
  have al : (zipD ds ds).all (fun _ => true) = true := by simp
  have e2 : f__law_same (n + 2) = fM 4 (m__law_same (f__law_same (n + 1))) := rfl
  rw [e2]
  simp only [m__law_same, tyIs, List.any_cons, List.any_nil, lc, all_map, al, b_ok, b_bad, b_ex, f_ok, f_bad, f_ex, n_nx, n_rt, n_bk, n_ct, n_ex, n_bad, l_nx, l_rt, l_bk, l_ct, l_ex, l_bad, sNx_e, sSeq_e, sBk_e, sCt_e, sRetN_e, sExp_e, kExp_e, sRet_e, kRet_e, sIf_e, kIf_t, kIf_f, sSet_e, kSet_e, svOf_t, svOf_f, sSetC_e, kCell_e, sAsg_e, kG1_e, oF_s, oF_n, gN_e, gT_e, gsNil_e, gsCons_e, sPar_e, kPar1_e, kPar2_e, sPar3_e, kPr1_e, kPr2_e, kPr3_e, sPut_e, kPut1_e, kPut2_e, isLst_l, kPut_e, kPt_e, kPu_e, plGet_e, pG_o, pG_c, plS_e, pS_o, pS_f, plC_e, pC_o, pC_c, mFr_e, kFz_e, mVar_e, kVar_f, kVar_o, mMov_e, kMov_f, kMov_o, mBw_e, kBw_f, kBw_o, mCon_e, mOf_e, kOf_e, o2_e, m2_e, k2a_e, k2b_e, kDB_s, kDB_n, fl_e, m1_e, k1a_e, get_dv, get_bw, sv_f, sv_o, sv_n, de_cell, de_non, de_bool, de_int, de_str, de_fn, de_rol, de_lst, de_tup, de_dct, de_dtt, de_ins, mCB_e, kCB_e, getAll_n, getAll_c, g2_e, mVals_e, kVl_e, vals_n, vals_c, aNil_e, aCons_e, kC1_e, kC2_e, mT_e, kTb_e, tAnd_e, kAn_t, kAn_f, tOr_e, kOr_t, kOr_f, tNot_e, kNt_e, mTru_e, kTr_e, kO_s, dTru_b, mIf_e, kIfe_t, kIfe_f, mAnd_e, kAnd_t, kAnd_f, mOr_e, kOr2_t, kOr2_f, mNot_e, kNot2_e, kFr_o, mFn_e, kF1_e, kFn_e, mFnK_e, kK1_e, v2_e, kK2_e, mMut_e, kMu_e, mMut0_e, oM_e, kMut_e, pNone_e, pSome_e, kPs_e, mCut_e, kCt1_e, kCt2_e, oC3_e, kCt3_e, fM_e, endF_n, endF_r, dAdd_i, dAdd_s, dAdd_l, dAdd_t, dSub_i, dMul_i, dDiv_i, dMod_i, dPow_i, dLt_i, dLe_i, dGt_i, dGe_i, dLt_s, dEq_i, dEq_b, dEq_s, dNe_i, dNe_b, dNe_s, dInt_i, dAbs_i, dLen_l, dLen_r, dLen_t, dLen_s, dIx_l, dIx_r, dIx_t, dList_l, dList_r, dList_t, dTuple_l, dTuple_t, dDispL_e, dDispT_e, dIsN_n, dNotN_n, dIsN_bool, dNotN_bool, dIsN_int, dNotN_int, dIsN_str, dNotN_str, dIsN_lst, dNotN_lst, dIsN_tup, dNotN_tup, dIsi_non, dIsiT_non, dIsi_bool, dIsiT_bool, dIsi_int, dIsiT_int, dIsi_str, dIsiT_str, dIsi_lst, dIsiT_lst, dIsi_rol, dIsiT_rol, dIsi_tup, dIsiT_tup, mChain_e, kH1_e, kH2_e, kH3_t, kH3_f, kH4_e, mM1_e, kM1_e, kM2_e, kM3_e, mJs_n, mJs_c, kJ_e, dFmt_s, dNeg_i, dDivmod_e, dMax2_e, dMin2_e, dCut_l, dCut_r, dCut_t, dCut_s, dPop_e, fApp_e, List.getElem?_cons_zero, List.getElem?_cons_succ, List.set_cons_zero, List.set_cons_succ, Option.bind_some, Option.bind_none, Option.map_some, Option.map_none, List.map_cons, List.map_nil, List.length_cons, List.length_nil, List.replicate, List.cons_append, List.nil_append, List.set_set, if_true, if_false, ite_true, ite_false, reduceIte, Nat.reduceAdd, Nat.reduceSub, Nat.zero_add, Nat.add_zero, Bool.not_true, Bool.not_false, decide_true, decide_false, Bool.true_and, Bool.and_true, Bool.false_and, Bool.and_false, Bool.or_true, Bool.true_or, Bool.or_false, Bool.false_or, eq_self]
theorem judged_ok {n : Nat} {d : EV.D} {c : CL} (h : Th n d) (hn : n ≤ 50) : f__law_judged [d] c = .ok (.bool true, false) [] c := by
  have a1 := name_ok (c := c) h
  have a2 := long_ok (c := c) h
  have a3 := is_group_ok (c := c) h
  have b1 := letters_ok (most := 6) (c := c) h
  have b2 := letters_ok (most := 12) (c := c) h
  have b3 := group_so_ok (c := c) h hn
  have sm := same_l (n := 4) (c := c) (ds := [.bool (spell d 6), .bool (spell d 12), .bool (grp d), .bool (spell d 6), .bool (spell d 12), .bool (grp d)]) (fun x hx => by
    simp only [List.mem_cons, List.not_mem_nil, or_false] at hx
    rcases hx with rfl | rfl | rfl | rfl | rfl | rfl <;> exact .inl ⟨_, rfl⟩) (by simp)
  have z6 : ((6 : Nat) ≤ sizeLine) = True := by rw [sizeLine_eq]; decide
  have z3 : ((3 : Nat) ≤ sizeLine) = True := by rw [sizeLine_eq]; decide
  have p1 : (([] : List Od).length = 0 ∧ (1 : Nat) = 1) = True := by simp
  simp only [f__law_judged, m__law_judged, a1, a2, a3, b1, b2, b3, sm, z6, z3, pick, p1, true_and, and_self, and_true, b_ok, b_bad, b_ex, f_ok, f_bad, f_ex, n_nx, n_rt, n_bk, n_ct, n_ex, n_bad, l_nx, l_rt, l_bk, l_ct, l_ex, l_bad, sNx_e, sSeq_e, sBk_e, sCt_e, sRetN_e, sExp_e, kExp_e, sRet_e, kRet_e, sIf_e, kIf_t, kIf_f, sSet_e, kSet_e, svOf_t, svOf_f, sSetC_e, kCell_e, sAsg_e, kG1_e, oF_s, oF_n, gN_e, gT_e, gsNil_e, gsCons_e, sPar_e, kPar1_e, kPar2_e, sPar3_e, kPr1_e, kPr2_e, kPr3_e, sPut_e, kPut1_e, kPut2_e, isLst_l, kPut_e, kPt_e, kPu_e, plGet_e, pG_o, pG_c, plS_e, pS_o, pS_f, plC_e, pC_o, pC_c, mFr_e, kFz_e, mVar_e, kVar_f, kVar_o, mMov_e, kMov_f, kMov_o, mBw_e, kBw_f, kBw_o, mCon_e, mOf_e, kOf_e, o2_e, m2_e, k2a_e, k2b_e, kDB_s, kDB_n, fl_e, m1_e, k1a_e, get_dv, get_bw, sv_f, sv_o, sv_n, de_cell, de_non, de_bool, de_int, de_str, de_fn, de_rol, de_lst, de_tup, de_dct, de_dtt, de_ins, mCB_e, kCB_e, getAll_n, getAll_c, g2_e, mVals_e, kVl_e, vals_n, vals_c, aNil_e, aCons_e, kC1_e, kC2_e, mT_e, kTb_e, tAnd_e, kAn_t, kAn_f, tOr_e, kOr_t, kOr_f, tNot_e, kNt_e, mTru_e, kTr_e, kO_s, dTru_b, mIf_e, kIfe_t, kIfe_f, mAnd_e, kAnd_t, kAnd_f, mOr_e, kOr2_t, kOr2_f, mNot_e, kNot2_e, kFr_o, mFn_e, kF1_e, kFn_e, mFnK_e, kK1_e, v2_e, kK2_e, mMut_e, kMu_e, mMut0_e, oM_e, kMut_e, pNone_e, pSome_e, kPs_e, mCut_e, kCt1_e, kCt2_e, oC3_e, kCt3_e, fM_e, endF_n, endF_r, dAdd_i, dAdd_s, dAdd_l, dAdd_t, dSub_i, dMul_i, dDiv_i, dMod_i, dPow_i, dLt_i, dLe_i, dGt_i, dGe_i, dLt_s, dEq_i, dEq_b, dEq_s, dNe_i, dNe_b, dNe_s, dInt_i, dAbs_i, dLen_l, dLen_r, dLen_t, dLen_s, dIx_l, dIx_r, dIx_t, dList_l, dList_r, dList_t, dTuple_l, dTuple_t, dDispL_e, dDispT_e, dIsN_n, dNotN_n, dIsN_bool, dNotN_bool, dIsN_int, dNotN_int, dIsN_str, dNotN_str, dIsN_lst, dNotN_lst, dIsN_tup, dNotN_tup, dIsi_non, dIsiT_non, dIsi_bool, dIsiT_bool, dIsi_int, dIsiT_int, dIsi_str, dIsiT_str, dIsi_lst, dIsiT_lst, dIsi_rol, dIsiT_rol, dIsi_tup, dIsiT_tup, mChain_e, kH1_e, kH2_e, kH3_t, kH3_f, kH4_e, mM1_e, kM1_e, kM2_e, kM3_e, mJs_n, mJs_c, kJ_e, dFmt_s, dNeg_i, dDivmod_e, dMax2_e, dMin2_e, dCut_l, dCut_r, dCut_t, dCut_s, dPop_e, fApp_e, List.getElem?_cons_zero, List.getElem?_cons_succ, List.set_cons_zero, List.set_cons_succ, Option.bind_some, Option.bind_none, Option.map_some, Option.map_none, List.map_cons, List.map_nil, List.length_cons, List.length_nil, List.replicate, List.cons_append, List.nil_append, List.set_set, if_true, if_false, ite_true, ite_false, reduceIte, Nat.reduceAdd, Nat.reduceSub, Nat.zero_add, Nat.add_zero, Bool.not_true, Bool.not_false, decide_true, decide_false, Bool.true_and, Bool.and_true, Bool.false_and, Bool.and_false, Bool.or_true, Bool.true_or, Bool.or_false, Bool.false_or, eq_self]
end KW

set_option Elab.async false
set_option linter.all false
set_option maxRecDepth 100000
namespace KW
open PySem PySem.Spec L2 EV
open PyProof.Rows hiding St
/-! ### texts of the law -/
def AscN (n : Nat) (x : Str) : Prop := x.length ≤ n ∧ ∀ k ∈ x.cps.toList, k < 128
theorem AscN.asc {n : Nat} {x : Str} (h : AscN n x) (hn : n ≤ 100) : Asc x := ⟨Nat.le_trans h.1 hn, h.2⟩
theorem AscN.mono {n m : Nat} {x : Str} (h : AscN n x) (hn : n ≤ m) : AscN m x := ⟨Nat.le_trans h.1 hn, h.2⟩
theorem AscN.app {n m : Nat} {x y : Str} (h : AscN n x) (k : AscN m y) : AscN (n + m) (x ++ y) := by
  refine ⟨?_, fun j hj => ?_⟩
  · show (x.cps ++ y.cps).size ≤ n + m
    rw [Array.size_append]
    exact Nat.add_le_add h.1 k.1
  · have hj' : j ∈ (x.cps ++ y.cps).toList := hj
    rw [Array.toList_append] at hj'
    rcases List.mem_append.mp hj' with z | z
    · exact h.2 j z
    · exact k.2 j z
theorem AscN.cut {n : Nat} {x : Str} {lo hi : Option Int} (h : AscN n x) : AscN n (cutS x lo hi) := by
  refine ⟨?_, fun j hj => ?_⟩
  · show (List.toArray _).size ≤ n
    rw [List.size_toArray, List.length_take, List.length_drop]
    have : x.cps.toList.length ≤ n := by
      have := h.1
      unfold Str.length at this
      simpa using this
    omega
  · have hj' : j ∈ (((x.cps.toList.drop (HT.sIx x.length 0 lo)).take (HT.sIx x.length x.length hi - HT.sIx x.length 0 lo)).toArray).toList := hj
    rw [List.toList_toArray] at hj'
    exact h.2 j (List.mem_of_mem_drop (List.mem_of_mem_take hj'))
theorem AscN.chr {x : Str} {n k : Nat} (h : AscN n x) (hk : k ∈ x.cps.toList) : AscN 1 ⟨#[k]⟩ := ⟨Nat.le_refl _, fun j hj => by
  have : j = k := by simpa using hj
  rw [this]
  exact h.2 k hk⟩
theorem AscN.nil : AscN 0 Str.empty := ⟨Nat.le_refl _, fun j hj => by cases hj⟩
theorem str0 : ("" : Str) = Str.empty := by decide
theorem AscN.join : ∀ {ys : List Str}, (∀ y ∈ ys, AscN 1 y) → AscN ys.length (Str.join Str.empty ys)
  | [], _ => .nil
  | [y], h => h y (List.mem_cons_self ..)
  | y :: z :: r, h => by
    have h1 := h y (List.mem_cons_self ..)
    have h2 := AscN.join (ys := z :: r) fun x hx => h x (List.mem_cons_of_mem _ hx)
    have := (h1.app AscN.nil).app h2
    refine this.mono ?_
    simp only [List.length_cons]
    omega
theorem joined {ys : List Str} (h : ∀ y ∈ ys, AscN 1 y) (hl : ys.length ≤ 1000) : ∃ w, dJoin (.str "") (.lst (ys.map .str)) = some (.str w, false) ∧ AscN ys.length w := by
  refine ⟨Txt.join Str.empty ys, ?_, by rw [TL.join_eq]; exact AscN.join h⟩
  rw [str0]
  show (dStrs (ys.map .str)).bind (fun ys => if (ys.map (·.length)).sum + ys.length * Str.empty.length ≤ 16777216 then fl (.str (Txt.join Str.empty ys)) else none) = _
  rw [dStrs_map]
  have hs : ∀ zs : List Str, (∀ y ∈ zs, AscN 1 y) → (zs.map (·.length)).sum ≤ zs.length := by
    intro zs
    induction zs with
    | nil => intro _; exact Nat.le_refl _
    | cons z zs ih =>
      intro h
      have a := (h z (List.mem_cons_self ..)).1
      have b := ih fun x hx => h x (List.mem_cons_of_mem _ hx)
      simp only [List.map_cons, List.sum_cons, List.length_cons]
      omega
  have h0 : Str.empty.length = 0 := rfl
  show (if (ys.map (·.length)).sum + ys.length * Str.empty.length ≤ 16777216 then fl (.str (Txt.join Str.empty ys)) else none) = _
  rw [if_pos (by have := hs ys h; rw [h0]; omega)]
  rfl
theorem ascL {x : Str} (n : Nat) (h : x.length ≤ n) (h2 : x.cps.toList.all (· < 128) = true) : AscN n x := ⟨h, fun k hk => of_decide_eq_true (List.all_eq_true.mp h2 k hk)⟩
theorem abc26 : AscN 26 "abcdefghijklmnopqrstuvwxyz" := ascL 26 (by decide) (by decide)
theorem sgn14 : AscN 14 "AZ09 _-?.=\n{`@" := ascL 14 (by decide) (by decide)
theorem lineN {n : Nat} (h : n ≤ 1000000) : (n ≤ sizeLine) = True := by
  have : sizeLine = 16777216 := sizeLine_eq
  exact eq_true (by omega)
theorem line_of {n : Nat} {x : Str} (h : AscN n x) (hn : n ≤ 1000) : x.length ≤ sizeLine := by
  have : sizeLine = 16777216 := sizeLine_eq
  have := h.1
  omega
/-- a comprehension of drawn signs -/
theorem drawn_signs {mi : MI} {me : ME} {s : SL} {c : CL} {n : Nat} {vs : List Nat} {i : Nat} (B : Bg c) (hm : mi s c = .ok (n + 1, lkL (rngD 0 n)) s c) (hn : n ≤ 1000)
    (hw : ∀ d : EV.D, swipe ((swipe s vs).set i (.fz d)) vs = swipe s vs) (hr : srest s (swipe s vs) vs = s)
    (he : ∀ d c, Bg c → ∃ y c', me ((swipe s vs).set i (.fz d)) c = .ok (.str y, false) ((swipe s vs).set i (.fz d)) c' ∧ Bg c' ∧ AscN 1 y) :
    ∃ (ys : List Str) (c' : CL), mLc mi (gN i) tYesM me vs s c = .ok (.lst (ys.map .str), true) s c' ∧ Bg c' ∧ ys.length = n ∧ ∀ y ∈ ys, AscN 1 y := by
  have hm' : mi s c = .ok ((rngD 0 n).length + 1, lkL (rngD 0 n)) s c := by rw [rngD_len]; exact hm
  obtain ⟨acc, s', c', h1, h2, h3, ys, h4, h5, h6⟩ := mLc_go (vs := vs) (t := tYesM) (m := me) (g := gN i) hm' (fun j acc s1 c1 => s1 = swipe s vs ∧ Bg c1 ∧ ∃ ys : List Str, acc = ys.map .str ∧ ys.length = j ∧ ∀ y ∈ ys, AscN 1 y) ⟨rfl, B, [], rfl, rfl, fun _ h => by cases h⟩
    (fun j d acc s1 c1 hd ⟨e1, b1, ys, e2, e3, e4⟩ => by
      subst e1 e2
      refine ⟨_, rfl, ?_⟩
      obtain ⟨y, c2, k1, k2, k3⟩ := he d c1 b1
      have hj : j < n := by
        have := (List.getElem?_eq_some_iff.mp hd).1
        rw [rngD_len] at this
        exact this
      refine .inr ⟨_, c1, .str y, false, _, c2, rfl, k1, ?_, hw d, k2, ys ++ [y], by rw [List.map_append]; rfl, by rw [List.length_append, e3]; rfl, fun z hz => ?_⟩
      · rw [List.length_map, e3]
        have : sizeLine = 16777216 := sizeLine_eq
        omega
      · rcases List.mem_append.mp hz with z' | z'
        · exact e4 z z'
        · have : z = y := by simpa using z'
          rw [this]
          exact k3)
  subst h2 h4
  refine ⟨ys, c', ?_, h3, by rw [h5, rngD_len], h6⟩
  rw [h1, hr]
theorem string_ok {c : CL} (B : Bg c) : ∃ w c', f__law_string [.cell 0] c = .ok (.str w, false) [] c' ∧ Bg c' ∧ AscN 27 w := by
  obtain ⟨n, c1, h1, b1, l1⟩ := draw_bg B (sides := 14) (by decide) (by decide)
  have hn : n < 14 := by omega
  obtain ⟨ys, c2, h2, b2, l2, a2⟩ := drawn_signs (s := [.fz (.cell 0), .fz (.int (n : Int)), .no, .no, .no]) (c := c1) (n := n) (vs := [4]) (i := 4) (mi := iRng1 (aCons (mBw 1) aNil)) (me := mFn 2 f__law_of (aCons (mOf (mVar 0)) (aCons (mOf (mCon (.str "abcdefghijklmnopqrstuvwxyz"))) aNil))) b1
    (by
      have := iRng1_e (m := aCons (mBw 1) aNil) (s := [.fz (.cell 0), .fz (.int (n : Int)), .no, .no, .no]) (s1 := [.fz (.cell 0), .fz (.int (n : Int)), .no, .no, .no]) (c := c1) (c1 := c1) (ods := [.bw 1]) (j := (n : Int)) (by simp only [b_ok, b_bad, b_ex, f_ok, f_bad, f_ex, n_nx, n_rt, n_bk, n_ct, n_ex, n_bad, l_nx, l_rt, l_bk, l_ct, l_ex, l_bad, sNx_e, sSeq_e, sBk_e, sCt_e, sRetN_e, sExp_e, kExp_e, sRet_e, kRet_e, sIf_e, kIf_t, kIf_f, sSet_e, kSet_e, svOf_t, svOf_f, sSetC_e, kCell_e, sAsg_e, kG1_e, oF_s, oF_n, gN_e, gT_e, gsNil_e, gsCons_e, sPar_e, kPar1_e, kPar2_e, sPar3_e, kPr1_e, kPr2_e, kPr3_e, sPut_e, kPut1_e, kPut2_e, isLst_l, kPut_e, kPt_e, kPu_e, plGet_e, pG_o, pG_c, plS_e, pS_o, pS_f, plC_e, pC_o, pC_c, mFr_e, kFz_e, mVar_e, kVar_f, kVar_o, mMov_e, kMov_f, kMov_o, mBw_e, kBw_f, kBw_o, mCon_e, mOf_e, kOf_e, o2_e, m2_e, k2a_e, k2b_e, kDB_s, kDB_n, fl_e, m1_e, k1a_e, get_dv, get_bw, sv_f, sv_o, sv_n, de_cell, de_non, de_bool, de_int, de_str, de_fn, de_rol, de_lst, de_tup, de_dct, de_dtt, de_ins, mCB_e, kCB_e, getAll_n, getAll_c, g2_e, mVals_e, kVl_e, vals_n, vals_c, aNil_e, aCons_e, kC1_e, kC2_e, mT_e, kTb_e, tAnd_e, kAn_t, kAn_f, tOr_e, kOr_t, kOr_f, tNot_e, kNt_e, mTru_e, kTr_e, kO_s, dTru_b, mIf_e, kIfe_t, kIfe_f, mAnd_e, kAnd_t, kAnd_f, mOr_e, kOr2_t, kOr2_f, mNot_e, kNot2_e, kFr_o, mFn_e, kF1_e, kFn_e, mFnK_e, kK1_e, v2_e, kK2_e, mMut_e, kMu_e, mMut0_e, oM_e, kMut_e, pNone_e, pSome_e, kPs_e, mCut_e, kCt1_e, kCt2_e, oC3_e, kCt3_e, fM_e, endF_n, endF_r, dAdd_i, dAdd_s, dAdd_l, dAdd_t, dSub_i, dMul_i, dDiv_i, dMod_i, dPow_i, dLt_i, dLe_i, dGt_i, dGe_i, dLt_s, dEq_i, dEq_b, dEq_s, dNe_i, dNe_b, dNe_s, dInt_i, dAbs_i, dLen_l, dLen_r, dLen_t, dLen_s, dIx_l, dIx_r, dIx_t, dList_l, dList_r, dList_t, dTuple_l, dTuple_t, dDispL_e, dDispT_e, dIsN_n, dNotN_n, dIsN_bool, dNotN_bool, dIsN_int, dNotN_int, dIsN_str, dNotN_str, dIsN_lst, dNotN_lst, dIsN_tup, dNotN_tup, dIsi_non, dIsiT_non, dIsi_bool, dIsiT_bool, dIsi_int, dIsiT_int, dIsi_str, dIsiT_str, dIsi_lst, dIsiT_lst, dIsi_rol, dIsiT_rol, dIsi_tup, dIsiT_tup, mChain_e, kH1_e, kH2_e, kH3_t, kH3_f, kH4_e, mM1_e, kM1_e, kM2_e, kM3_e, mJs_n, mJs_c, kJ_e, dFmt_s, dNeg_i, dDivmod_e, dMax2_e, dMin2_e, dCut_l, dCut_r, dCut_t, dCut_s, dPop_e, fApp_e, List.getElem?_cons_zero, List.getElem?_cons_succ, List.set_cons_zero, List.set_cons_succ, Option.bind_some, Option.bind_none, Option.map_some, Option.map_none, List.map_cons, List.map_nil, List.length_cons, List.length_nil, List.replicate, List.cons_append, List.nil_append, List.set_set, if_true, if_false, ite_true, ite_false, reduceIte, Nat.reduceAdd, Nat.reduceSub, Nat.zero_add, Nat.add_zero, Bool.not_true, Bool.not_false, decide_true, decide_false, Bool.true_and, Bool.and_true, Bool.false_and, Bool.and_false, Bool.or_true, Bool.true_or, Bool.or_false, Bool.false_or, eq_self]) (by simp only [b_ok, b_bad, b_ex, f_ok, f_bad, f_ex, n_nx, n_rt, n_bk, n_ct, n_ex, n_bad, l_nx, l_rt, l_bk, l_ct, l_ex, l_bad, sNx_e, sSeq_e, sBk_e, sCt_e, sRetN_e, sExp_e, kExp_e, sRet_e, kRet_e, sIf_e, kIf_t, kIf_f, sSet_e, kSet_e, svOf_t, svOf_f, sSetC_e, kCell_e, sAsg_e, kG1_e, oF_s, oF_n, gN_e, gT_e, gsNil_e, gsCons_e, sPar_e, kPar1_e, kPar2_e, sPar3_e, kPr1_e, kPr2_e, kPr3_e, sPut_e, kPut1_e, kPut2_e, isLst_l, kPut_e, kPt_e, kPu_e, plGet_e, pG_o, pG_c, plS_e, pS_o, pS_f, plC_e, pC_o, pC_c, mFr_e, kFz_e, mVar_e, kVar_f, kVar_o, mMov_e, kMov_f, kMov_o, mBw_e, kBw_f, kBw_o, mCon_e, mOf_e, kOf_e, o2_e, m2_e, k2a_e, k2b_e, kDB_s, kDB_n, fl_e, m1_e, k1a_e, get_dv, get_bw, sv_f, sv_o, sv_n, de_cell, de_non, de_bool, de_int, de_str, de_fn, de_rol, de_lst, de_tup, de_dct, de_dtt, de_ins, mCB_e, kCB_e, getAll_n, getAll_c, g2_e, mVals_e, kVl_e, vals_n, vals_c, aNil_e, aCons_e, kC1_e, kC2_e, mT_e, kTb_e, tAnd_e, kAn_t, kAn_f, tOr_e, kOr_t, kOr_f, tNot_e, kNt_e, mTru_e, kTr_e, kO_s, dTru_b, mIf_e, kIfe_t, kIfe_f, mAnd_e, kAnd_t, kAnd_f, mOr_e, kOr2_t, kOr2_f, mNot_e, kNot2_e, kFr_o, mFn_e, kF1_e, kFn_e, mFnK_e, kK1_e, v2_e, kK2_e, mMut_e, kMu_e, mMut0_e, oM_e, kMut_e, pNone_e, pSome_e, kPs_e, mCut_e, kCt1_e, kCt2_e, oC3_e, kCt3_e, fM_e, endF_n, endF_r, dAdd_i, dAdd_s, dAdd_l, dAdd_t, dSub_i, dMul_i, dDiv_i, dMod_i, dPow_i, dLt_i, dLe_i, dGt_i, dGe_i, dLt_s, dEq_i, dEq_b, dEq_s, dNe_i, dNe_b, dNe_s, dInt_i, dAbs_i, dLen_l, dLen_r, dLen_t, dLen_s, dIx_l, dIx_r, dIx_t, dList_l, dList_r, dList_t, dTuple_l, dTuple_t, dDispL_e, dDispT_e, dIsN_n, dNotN_n, dIsN_bool, dNotN_bool, dIsN_int, dNotN_int, dIsN_str, dNotN_str, dIsN_lst, dNotN_lst, dIsN_tup, dNotN_tup, dIsi_non, dIsiT_non, dIsi_bool, dIsiT_bool, dIsi_int, dIsiT_int, dIsi_str, dIsiT_str, dIsi_lst, dIsiT_lst, dIsi_rol, dIsiT_rol, dIsi_tup, dIsiT_tup, mChain_e, kH1_e, kH2_e, kH3_t, kH3_f, kH4_e, mM1_e, kM1_e, kM2_e, kM3_e, mJs_n, mJs_c, kJ_e, dFmt_s, dNeg_i, dDivmod_e, dMax2_e, dMin2_e, dCut_l, dCut_r, dCut_t, dCut_s, dPop_e, fApp_e, List.getElem?_cons_zero, List.getElem?_cons_succ, List.set_cons_zero, List.set_cons_succ, Option.bind_some, Option.bind_none, Option.map_some, Option.map_none, List.map_cons, List.map_nil, List.length_cons, List.length_nil, List.replicate, List.cons_append, List.nil_append, List.set_set, if_true, if_false, ite_true, ite_false, reduceIte, Nat.reduceAdd, Nat.reduceSub, Nat.zero_add, Nat.add_zero, Bool.not_true, Bool.not_false, decide_true, decide_false, Bool.true_and, Bool.and_true, Bool.false_and, Bool.and_false, Bool.or_true, Bool.true_or, Bool.or_false, Bool.false_or, eq_self]) (by omega)
      rw [this, rngD_len, Int.toNat_natCast]) (by omega) (fun d => by simp only [swipe, b_ok, b_bad, b_ex, f_ok, f_bad, f_ex, n_nx, n_rt, n_bk, n_ct, n_ex, n_bad, l_nx, l_rt, l_bk, l_ct, l_ex, l_bad, sNx_e, sSeq_e, sBk_e, sCt_e, sRetN_e, sExp_e, kExp_e, sRet_e, kRet_e, sIf_e, kIf_t, kIf_f, sSet_e, kSet_e, svOf_t, svOf_f, sSetC_e, kCell_e, sAsg_e, kG1_e, oF_s, oF_n, gN_e, gT_e, gsNil_e, gsCons_e, sPar_e, kPar1_e, kPar2_e, sPar3_e, kPr1_e, kPr2_e, kPr3_e, sPut_e, kPut1_e, kPut2_e, isLst_l, kPut_e, kPt_e, kPu_e, plGet_e, pG_o, pG_c, plS_e, pS_o, pS_f, plC_e, pC_o, pC_c, mFr_e, kFz_e, mVar_e, kVar_f, kVar_o, mMov_e, kMov_f, kMov_o, mBw_e, kBw_f, kBw_o, mCon_e, mOf_e, kOf_e, o2_e, m2_e, k2a_e, k2b_e, kDB_s, kDB_n, fl_e, m1_e, k1a_e, get_dv, get_bw, sv_f, sv_o, sv_n, de_cell, de_non, de_bool, de_int, de_str, de_fn, de_rol, de_lst, de_tup, de_dct, de_dtt, de_ins, mCB_e, kCB_e, getAll_n, getAll_c, g2_e, mVals_e, kVl_e, vals_n, vals_c, aNil_e, aCons_e, kC1_e, kC2_e, mT_e, kTb_e, tAnd_e, kAn_t, kAn_f, tOr_e, kOr_t, kOr_f, tNot_e, kNt_e, mTru_e, kTr_e, kO_s, dTru_b, mIf_e, kIfe_t, kIfe_f, mAnd_e, kAnd_t, kAnd_f, mOr_e, kOr2_t, kOr2_f, mNot_e, kNot2_e, kFr_o, mFn_e, kF1_e, kFn_e, mFnK_e, kK1_e, v2_e, kK2_e, mMut_e, kMu_e, mMut0_e, oM_e, kMut_e, pNone_e, pSome_e, kPs_e, mCut_e, kCt1_e, kCt2_e, oC3_e, kCt3_e, fM_e, endF_n, endF_r, dAdd_i, dAdd_s, dAdd_l, dAdd_t, dSub_i, dMul_i, dDiv_i, dMod_i, dPow_i, dLt_i, dLe_i, dGt_i, dGe_i, dLt_s, dEq_i, dEq_b, dEq_s, dNe_i, dNe_b, dNe_s, dInt_i, dAbs_i, dLen_l, dLen_r, dLen_t, dLen_s, dIx_l, dIx_r, dIx_t, dList_l, dList_r, dList_t, dTuple_l, dTuple_t, dDispL_e, dDispT_e, dIsN_n, dNotN_n, dIsN_bool, dNotN_bool, dIsN_int, dNotN_int, dIsN_str, dNotN_str, dIsN_lst, dNotN_lst, dIsN_tup, dNotN_tup, dIsi_non, dIsiT_non, dIsi_bool, dIsiT_bool, dIsi_int, dIsiT_int, dIsi_str, dIsiT_str, dIsi_lst, dIsiT_lst, dIsi_rol, dIsiT_rol, dIsi_tup, dIsiT_tup, mChain_e, kH1_e, kH2_e, kH3_t, kH3_f, kH4_e, mM1_e, kM1_e, kM2_e, kM3_e, mJs_n, mJs_c, kJ_e, dFmt_s, dNeg_i, dDivmod_e, dMax2_e, dMin2_e, dCut_l, dCut_r, dCut_t, dCut_s, dPop_e, fApp_e, List.getElem?_cons_zero, List.getElem?_cons_succ, List.set_cons_zero, List.set_cons_succ, Option.bind_some, Option.bind_none, Option.map_some, Option.map_none, List.map_cons, List.map_nil, List.length_cons, List.length_nil, List.replicate, List.cons_append, List.nil_append, List.set_set, if_true, if_false, ite_true, ite_false, reduceIte, Nat.reduceAdd, Nat.reduceSub, Nat.zero_add, Nat.add_zero, Bool.not_true, Bool.not_false, decide_true, decide_false, Bool.true_and, Bool.and_true, Bool.false_and, Bool.and_false, Bool.or_true, Bool.true_or, Bool.or_false, Bool.false_or, eq_self]) (by simp only [swipe, srest, b_ok, b_bad, b_ex, f_ok, f_bad, f_ex, n_nx, n_rt, n_bk, n_ct, n_ex, n_bad, l_nx, l_rt, l_bk, l_ct, l_ex, l_bad, sNx_e, sSeq_e, sBk_e, sCt_e, sRetN_e, sExp_e, kExp_e, sRet_e, kRet_e, sIf_e, kIf_t, kIf_f, sSet_e, kSet_e, svOf_t, svOf_f, sSetC_e, kCell_e, sAsg_e, kG1_e, oF_s, oF_n, gN_e, gT_e, gsNil_e, gsCons_e, sPar_e, kPar1_e, kPar2_e, sPar3_e, kPr1_e, kPr2_e, kPr3_e, sPut_e, kPut1_e, kPut2_e, isLst_l, kPut_e, kPt_e, kPu_e, plGet_e, pG_o, pG_c, plS_e, pS_o, pS_f, plC_e, pC_o, pC_c, mFr_e, kFz_e, mVar_e, kVar_f, kVar_o, mMov_e, kMov_f, kMov_o, mBw_e, kBw_f, kBw_o, mCon_e, mOf_e, kOf_e, o2_e, m2_e, k2a_e, k2b_e, kDB_s, kDB_n, fl_e, m1_e, k1a_e, get_dv, get_bw, sv_f, sv_o, sv_n, de_cell, de_non, de_bool, de_int, de_str, de_fn, de_rol, de_lst, de_tup, de_dct, de_dtt, de_ins, mCB_e, kCB_e, getAll_n, getAll_c, g2_e, mVals_e, kVl_e, vals_n, vals_c, aNil_e, aCons_e, kC1_e, kC2_e, mT_e, kTb_e, tAnd_e, kAn_t, kAn_f, tOr_e, kOr_t, kOr_f, tNot_e, kNt_e, mTru_e, kTr_e, kO_s, dTru_b, mIf_e, kIfe_t, kIfe_f, mAnd_e, kAnd_t, kAnd_f, mOr_e, kOr2_t, kOr2_f, mNot_e, kNot2_e, kFr_o, mFn_e, kF1_e, kFn_e, mFnK_e, kK1_e, v2_e, kK2_e, mMut_e, kMu_e, mMut0_e, oM_e, kMut_e, pNone_e, pSome_e, kPs_e, mCut_e, kCt1_e, kCt2_e, oC3_e, kCt3_e, fM_e, endF_n, endF_r, dAdd_i, dAdd_s, dAdd_l, dAdd_t, dSub_i, dMul_i, dDiv_i, dMod_i, dPow_i, dLt_i, dLe_i, dGt_i, dGe_i, dLt_s, dEq_i, dEq_b, dEq_s, dNe_i, dNe_b, dNe_s, dInt_i, dAbs_i, dLen_l, dLen_r, dLen_t, dLen_s, dIx_l, dIx_r, dIx_t, dList_l, dList_r, dList_t, dTuple_l, dTuple_t, dDispL_e, dDispT_e, dIsN_n, dNotN_n, dIsN_bool, dNotN_bool, dIsN_int, dNotN_int, dIsN_str, dNotN_str, dIsN_lst, dNotN_lst, dIsN_tup, dNotN_tup, dIsi_non, dIsiT_non, dIsi_bool, dIsiT_bool, dIsi_int, dIsiT_int, dIsi_str, dIsiT_str, dIsi_lst, dIsiT_lst, dIsi_rol, dIsiT_rol, dIsi_tup, dIsiT_tup, mChain_e, kH1_e, kH2_e, kH3_t, kH3_f, kH4_e, mM1_e, kM1_e, kM2_e, kM3_e, mJs_n, mJs_c, kJ_e, dFmt_s, dNeg_i, dDivmod_e, dMax2_e, dMin2_e, dCut_l, dCut_r, dCut_t, dCut_s, dPop_e, fApp_e, List.getElem?_cons_zero, List.getElem?_cons_succ, List.set_cons_zero, List.set_cons_succ, Option.bind_some, Option.bind_none, Option.map_some, Option.map_none, List.map_cons, List.map_nil, List.length_cons, List.length_nil, List.replicate, List.cons_append, List.nil_append, List.set_set, if_true, if_false, ite_true, ite_false, reduceIte, Nat.reduceAdd, Nat.reduceSub, Nat.zero_add, Nat.add_zero, Bool.not_true, Bool.not_false, decide_true, decide_false, Bool.true_and, Bool.and_true, Bool.false_and, Bool.and_false, Bool.or_true, Bool.true_or, Bool.or_false, Bool.false_or, eq_self]) fun d c B => by
      obtain ⟨k, c', g1, g2, g3⟩ := of_s (x := "abcdefghijklmnopqrstuvwxyz") B (by decide) (line_of abc26 (by decide))
      refine ⟨⟨#[k]⟩, c', ?_, g2, abc26.chr g3⟩
      simp only [swipe, g1, b_ok, b_bad, b_ex, f_ok, f_bad, f_ex, n_nx, n_rt, n_bk, n_ct, n_ex, n_bad, l_nx, l_rt, l_bk, l_ct, l_ex, l_bad, sNx_e, sSeq_e, sBk_e, sCt_e, sRetN_e, sExp_e, kExp_e, sRet_e, kRet_e, sIf_e, kIf_t, kIf_f, sSet_e, kSet_e, svOf_t, svOf_f, sSetC_e, kCell_e, sAsg_e, kG1_e, oF_s, oF_n, gN_e, gT_e, gsNil_e, gsCons_e, sPar_e, kPar1_e, kPar2_e, sPar3_e, kPr1_e, kPr2_e, kPr3_e, sPut_e, kPut1_e, kPut2_e, isLst_l, kPut_e, kPt_e, kPu_e, plGet_e, pG_o, pG_c, plS_e, pS_o, pS_f, plC_e, pC_o, pC_c, mFr_e, kFz_e, mVar_e, kVar_f, kVar_o, mMov_e, kMov_f, kMov_o, mBw_e, kBw_f, kBw_o, mCon_e, mOf_e, kOf_e, o2_e, m2_e, k2a_e, k2b_e, kDB_s, kDB_n, fl_e, m1_e, k1a_e, get_dv, get_bw, sv_f, sv_o, sv_n, de_cell, de_non, de_bool, de_int, de_str, de_fn, de_rol, de_lst, de_tup, de_dct, de_dtt, de_ins, mCB_e, kCB_e, getAll_n, getAll_c, g2_e, mVals_e, kVl_e, vals_n, vals_c, aNil_e, aCons_e, kC1_e, kC2_e, mT_e, kTb_e, tAnd_e, kAn_t, kAn_f, tOr_e, kOr_t, kOr_f, tNot_e, kNt_e, mTru_e, kTr_e, kO_s, dTru_b, mIf_e, kIfe_t, kIfe_f, mAnd_e, kAnd_t, kAnd_f, mOr_e, kOr2_t, kOr2_f, mNot_e, kNot2_e, kFr_o, mFn_e, kF1_e, kFn_e, mFnK_e, kK1_e, v2_e, kK2_e, mMut_e, kMu_e, mMut0_e, oM_e, kMut_e, pNone_e, pSome_e, kPs_e, mCut_e, kCt1_e, kCt2_e, oC3_e, kCt3_e, fM_e, endF_n, endF_r, dAdd_i, dAdd_s, dAdd_l, dAdd_t, dSub_i, dMul_i, dDiv_i, dMod_i, dPow_i, dLt_i, dLe_i, dGt_i, dGe_i, dLt_s, dEq_i, dEq_b, dEq_s, dNe_i, dNe_b, dNe_s, dInt_i, dAbs_i, dLen_l, dLen_r, dLen_t, dLen_s, dIx_l, dIx_r, dIx_t, dList_l, dList_r, dList_t, dTuple_l, dTuple_t, dDispL_e, dDispT_e, dIsN_n, dNotN_n, dIsN_bool, dNotN_bool, dIsN_int, dNotN_int, dIsN_str, dNotN_str, dIsN_lst, dNotN_lst, dIsN_tup, dNotN_tup, dIsi_non, dIsiT_non, dIsi_bool, dIsiT_bool, dIsi_int, dIsiT_int, dIsi_str, dIsiT_str, dIsi_lst, dIsiT_lst, dIsi_rol, dIsiT_rol, dIsi_tup, dIsiT_tup, mChain_e, kH1_e, kH2_e, kH3_t, kH3_f, kH4_e, mM1_e, kM1_e, kM2_e, kM3_e, mJs_n, mJs_c, kJ_e, dFmt_s, dNeg_i, dDivmod_e, dMax2_e, dMin2_e, dCut_l, dCut_r, dCut_t, dCut_s, dPop_e, fApp_e, List.getElem?_cons_zero, List.getElem?_cons_succ, List.set_cons_zero, List.set_cons_succ, Option.bind_some, Option.bind_none, Option.map_some, Option.map_none, List.map_cons, List.map_nil, List.length_cons, List.length_nil, List.replicate, List.cons_append, List.nil_append, List.set_set, if_true, if_false, ite_true, ite_false, reduceIte, Nat.reduceAdd, Nat.reduceSub, Nat.zero_add, Nat.add_zero, Bool.not_true, Bool.not_false, decide_true, decide_false, Bool.true_and, Bool.and_true, Bool.false_and, Bool.and_false, Bool.or_true, Bool.true_or, Bool.or_false, Bool.false_or, eq_self]
  obtain ⟨w, h3, a3⟩ := joined a2 (by omega)
  have a3' : AscN 13 w := a3.mono (by omega)
  obtain ⟨m, c3, h4, b3, l3⟩ := draw_bg b2 (sides := (n : Int) + 1) (by omega) (by omega)
  obtain ⟨q, c4, h5, b4, l4⟩ := draw_bg b3 (sides := 3) (by decide) (by decide)
  have z1 : (w.length ≤ sizeLine) = True := lineN (Nat.le_trans a3'.1 (by decide))
  by_cases hq : (q : Int) = 0
  · have e1 : ((q : Int) = 0) = True := eq_true hq
    obtain ⟨k, c5, h6, b5, g3⟩ := of_s (x := "AZ09 _-?.=\n{`@") b4 (by decide) (line_of sgn14 (by decide))
    have k1 := sgn14.chr g3
    have p1 : AscN 14 (cutS w none (some (m : Int)) ++ ⟨#[k]⟩) := (a3'.cut.app k1)
    have p2 : AscN 27 (cutS w none (some (m : Int)) ++ ⟨#[k]⟩ ++ cutS w (some ((m : Int) + 1)) none) := (p1.app a3'.cut)
    refine ⟨_, c5, ?_, b5, p2⟩
    have z2 : ((cutS w none (some (m : Int))).length + Str.length ⟨#[k]⟩ ≤ sizeLine) = True := lineN (by have := (a3'.cut (lo := none) (hi := some (m : Int))).1; have := k1.1; omega)
    have z3 : ((cutS w none (some (m : Int)) ++ ⟨#[k]⟩).length + (cutS w (some ((m : Int) + 1)) none).length ≤ sizeLine) = True := lineN (by have := p1.1; have := (a3'.cut (lo := some ((m : Int) + 1)) (hi := none)).1; omega)
    simp only [f__law_string, m__law_string, h1, h2, h3, h4, h5, h6, e1, z1, z2, z3, b_ok, b_bad, b_ex, f_ok, f_bad, f_ex, n_nx, n_rt, n_bk, n_ct, n_ex, n_bad, l_nx, l_rt, l_bk, l_ct, l_ex, l_bad, sNx_e, sSeq_e, sBk_e, sCt_e, sRetN_e, sExp_e, kExp_e, sRet_e, kRet_e, sIf_e, kIf_t, kIf_f, sSet_e, kSet_e, svOf_t, svOf_f, sSetC_e, kCell_e, sAsg_e, kG1_e, oF_s, oF_n, gN_e, gT_e, gsNil_e, gsCons_e, sPar_e, kPar1_e, kPar2_e, sPar3_e, kPr1_e, kPr2_e, kPr3_e, sPut_e, kPut1_e, kPut2_e, isLst_l, kPut_e, kPt_e, kPu_e, plGet_e, pG_o, pG_c, plS_e, pS_o, pS_f, plC_e, pC_o, pC_c, mFr_e, kFz_e, mVar_e, kVar_f, kVar_o, mMov_e, kMov_f, kMov_o, mBw_e, kBw_f, kBw_o, mCon_e, mOf_e, kOf_e, o2_e, m2_e, k2a_e, k2b_e, kDB_s, kDB_n, fl_e, m1_e, k1a_e, get_dv, get_bw, sv_f, sv_o, sv_n, de_cell, de_non, de_bool, de_int, de_str, de_fn, de_rol, de_lst, de_tup, de_dct, de_dtt, de_ins, mCB_e, kCB_e, getAll_n, getAll_c, g2_e, mVals_e, kVl_e, vals_n, vals_c, aNil_e, aCons_e, kC1_e, kC2_e, mT_e, kTb_e, tAnd_e, kAn_t, kAn_f, tOr_e, kOr_t, kOr_f, tNot_e, kNt_e, mTru_e, kTr_e, kO_s, dTru_b, mIf_e, kIfe_t, kIfe_f, mAnd_e, kAnd_t, kAnd_f, mOr_e, kOr2_t, kOr2_f, mNot_e, kNot2_e, kFr_o, mFn_e, kF1_e, kFn_e, mFnK_e, kK1_e, v2_e, kK2_e, mMut_e, kMu_e, mMut0_e, oM_e, kMut_e, pNone_e, pSome_e, kPs_e, mCut_e, kCt1_e, kCt2_e, oC3_e, kCt3_e, fM_e, endF_n, endF_r, dAdd_i, dAdd_s, dAdd_l, dAdd_t, dSub_i, dMul_i, dDiv_i, dMod_i, dPow_i, dLt_i, dLe_i, dGt_i, dGe_i, dLt_s, dEq_i, dEq_b, dEq_s, dNe_i, dNe_b, dNe_s, dInt_i, dAbs_i, dLen_l, dLen_r, dLen_t, dLen_s, dIx_l, dIx_r, dIx_t, dList_l, dList_r, dList_t, dTuple_l, dTuple_t, dDispL_e, dDispT_e, dIsN_n, dNotN_n, dIsN_bool, dNotN_bool, dIsN_int, dNotN_int, dIsN_str, dNotN_str, dIsN_lst, dNotN_lst, dIsN_tup, dNotN_tup, dIsi_non, dIsiT_non, dIsi_bool, dIsiT_bool, dIsi_int, dIsiT_int, dIsi_str, dIsiT_str, dIsi_lst, dIsiT_lst, dIsi_rol, dIsiT_rol, dIsi_tup, dIsiT_tup, mChain_e, kH1_e, kH2_e, kH3_t, kH3_f, kH4_e, mM1_e, kM1_e, kM2_e, kM3_e, mJs_n, mJs_c, kJ_e, dFmt_s, dNeg_i, dDivmod_e, dMax2_e, dMin2_e, dCut_l, dCut_r, dCut_t, dCut_s, dPop_e, fApp_e, List.getElem?_cons_zero, List.getElem?_cons_succ, List.set_cons_zero, List.set_cons_succ, Option.bind_some, Option.bind_none, Option.map_some, Option.map_none, List.map_cons, List.map_nil, List.length_cons, List.length_nil, List.replicate, List.cons_append, List.nil_append, List.set_set, if_true, if_false, ite_true, ite_false, reduceIte, Nat.reduceAdd, Nat.reduceSub, Nat.zero_add, Nat.add_zero, Bool.not_true, Bool.not_false, decide_true, decide_false, Bool.true_and, Bool.and_true, Bool.false_and, Bool.and_false, Bool.or_true, Bool.true_or, Bool.or_false, Bool.false_or, eq_self]
  · have e1 : ((q : Int) = 0) = False := eq_false hq
    refine ⟨w, c4, ?_, b4, a3'.mono (by decide)⟩
    simp only [f__law_string, m__law_string, h1, h2, h3, h4, h5, e1, b_ok, b_bad, b_ex, f_ok, f_bad, f_ex, n_nx, n_rt, n_bk, n_ct, n_ex, n_bad, l_nx, l_rt, l_bk, l_ct, l_ex, l_bad, sNx_e, sSeq_e, sBk_e, sCt_e, sRetN_e, sExp_e, kExp_e, sRet_e, kRet_e, sIf_e, kIf_t, kIf_f, sSet_e, kSet_e, svOf_t, svOf_f, sSetC_e, kCell_e, sAsg_e, kG1_e, oF_s, oF_n, gN_e, gT_e, gsNil_e, gsCons_e, sPar_e, kPar1_e, kPar2_e, sPar3_e, kPr1_e, kPr2_e, kPr3_e, sPut_e, kPut1_e, kPut2_e, isLst_l, kPut_e, kPt_e, kPu_e, plGet_e, pG_o, pG_c, plS_e, pS_o, pS_f, plC_e, pC_o, pC_c, mFr_e, kFz_e, mVar_e, kVar_f, kVar_o, mMov_e, kMov_f, kMov_o, mBw_e, kBw_f, kBw_o, mCon_e, mOf_e, kOf_e, o2_e, m2_e, k2a_e, k2b_e, kDB_s, kDB_n, fl_e, m1_e, k1a_e, get_dv, get_bw, sv_f, sv_o, sv_n, de_cell, de_non, de_bool, de_int, de_str, de_fn, de_rol, de_lst, de_tup, de_dct, de_dtt, de_ins, mCB_e, kCB_e, getAll_n, getAll_c, g2_e, mVals_e, kVl_e, vals_n, vals_c, aNil_e, aCons_e, kC1_e, kC2_e, mT_e, kTb_e, tAnd_e, kAn_t, kAn_f, tOr_e, kOr_t, kOr_f, tNot_e, kNt_e, mTru_e, kTr_e, kO_s, dTru_b, mIf_e, kIfe_t, kIfe_f, mAnd_e, kAnd_t, kAnd_f, mOr_e, kOr2_t, kOr2_f, mNot_e, kNot2_e, kFr_o, mFn_e, kF1_e, kFn_e, mFnK_e, kK1_e, v2_e, kK2_e, mMut_e, kMu_e, mMut0_e, oM_e, kMut_e, pNone_e, pSome_e, kPs_e, mCut_e, kCt1_e, kCt2_e, oC3_e, kCt3_e, fM_e, endF_n, endF_r, dAdd_i, dAdd_s, dAdd_l, dAdd_t, dSub_i, dMul_i, dDiv_i, dMod_i, dPow_i, dLt_i, dLe_i, dGt_i, dGe_i, dLt_s, dEq_i, dEq_b, dEq_s, dNe_i, dNe_b, dNe_s, dInt_i, dAbs_i, dLen_l, dLen_r, dLen_t, dLen_s, dIx_l, dIx_r, dIx_t, dList_l, dList_r, dList_t, dTuple_l, dTuple_t, dDispL_e, dDispT_e, dIsN_n, dNotN_n, dIsN_bool, dNotN_bool, dIsN_int, dNotN_int, dIsN_str, dNotN_str, dIsN_lst, dNotN_lst, dIsN_tup, dNotN_tup, dIsi_non, dIsiT_non, dIsi_bool, dIsiT_bool, dIsi_int, dIsiT_int, dIsi_str, dIsiT_str, dIsi_lst, dIsiT_lst, dIsi_rol, dIsiT_rol, dIsi_tup, dIsiT_tup, mChain_e, kH1_e, kH2_e, kH3_t, kH3_f, kH4_e, mM1_e, kM1_e, kM2_e, kM3_e, mJs_n, mJs_c, kJ_e, dFmt_s, dNeg_i, dDivmod_e, dMax2_e, dMin2_e, dCut_l, dCut_r, dCut_t, dCut_s, dPop_e, fApp_e, List.getElem?_cons_zero, List.getElem?_cons_succ, List.set_cons_zero, List.set_cons_succ, Option.bind_some, Option.bind_none, Option.map_some, Option.map_none, List.map_cons, List.map_nil, List.length_cons, List.length_nil, List.replicate, List.cons_append, List.nil_append, List.set_set, if_true, if_false, ite_true, ite_false, reduceIte, Nat.reduceAdd, Nat.reduceSub, Nat.zero_add, Nat.add_zero, Bool.not_true, Bool.not_false, decide_true, decide_false, Bool.true_and, Bool.and_true, Bool.false_and, Bool.and_false, Bool.or_true, Bool.true_or, Bool.or_false, Bool.false_or, eq_self]
end KW

set_option Elab.async false
set_option linter.all false
set_option maxRecDepth 100000
namespace KW
open PySem PySem.Spec L2 EV
open PyProof.Rows hiding St
theorem Th.up : ∀ {n : Nat} {d : EV.D}, Th n d → Th (n + 1) d
  | _, _, .non => .non
  | _, _, .bool b => .bool b
  | _, _, .int i => .int i
  | _, _, .str h => .str h
  | _, _, .lst h1 h2 => .lst h1 fun d hd => (h2 d hd).up
  | _, _, .tup h1 h2 => .tup h1 fun d hd => (h2 d hd).up
theorem ascs (x : Str) (n : Nat) (h : x.length ≤ n) (h2 : x.cps.toList.all (· < 128) = true) (hn : n ≤ 100) : Asc x := (ascL n h h2).asc hn
theorem odd_ok {c : CL} {more : List EV.D} (B : Bg c) (h : ∀ d ∈ more, Th 1 d) (hl : more.length ≤ 50) : ∃ x c', f__law_odd [.cell 0, .lst more] c = .ok (x, false) [] c' ∧ Bg c' ∧ Th 1 x := by
  obtain ⟨x, c', h1, h2, h3⟩ := of_l (xs := [.non, .bool true, .bool false, .str "", .str "A", .int (-1), .int 999999999, .tup [], .lst [], .tup [.int 1], .lst [.str "a"], .str "a b", .str "abcdefg", .tup [.str "a", .str "b"], .lst [.non]] ++ more) B (by simp) (by simp; omega)
  refine ⟨x, c', ?_, h2, ?_⟩
  · have z : (15 + more.length ≤ sizeLine) = True := lineN (by omega)
    have z0 : ((0 : Nat) ≤ sizeLine) = True := lineN (by decide)
    have z1 : ((1 : Nat) ≤ sizeLine) = True := lineN (by decide)
    have z2 : ((2 : Nat) ≤ sizeLine) = True := lineN (by decide)
    have z15 : ((15 : Nat) ≤ sizeLine) = True := lineN (by decide)
    simp only [List.cons_append, List.nil_append] at h1
    simp only [f__law_odd, m__law_odd, h1, z, z0, z1, z2, z15, b_ok, b_bad, b_ex, f_ok, f_bad, f_ex, n_nx, n_rt, n_bk, n_ct, n_ex, n_bad, l_nx, l_rt, l_bk, l_ct, l_ex, l_bad, sNx_e, sSeq_e, sBk_e, sCt_e, sRetN_e, sExp_e, kExp_e, sRet_e, kRet_e, sIf_e, kIf_t, kIf_f, sSet_e, kSet_e, svOf_t, svOf_f, sSetC_e, kCell_e, sAsg_e, kG1_e, oF_s, oF_n, gN_e, gT_e, gsNil_e, gsCons_e, sPar_e, kPar1_e, kPar2_e, sPar3_e, kPr1_e, kPr2_e, kPr3_e, sPut_e, kPut1_e, kPut2_e, isLst_l, kPut_e, kPt_e, kPu_e, plGet_e, pG_o, pG_c, plS_e, pS_o, pS_f, plC_e, pC_o, pC_c, mFr_e, kFz_e, mVar_e, kVar_f, kVar_o, mMov_e, kMov_f, kMov_o, mBw_e, kBw_f, kBw_o, mCon_e, mOf_e, kOf_e, o2_e, m2_e, k2a_e, k2b_e, kDB_s, kDB_n, fl_e, m1_e, k1a_e, get_dv, get_bw, sv_f, sv_o, sv_n, de_cell, de_non, de_bool, de_int, de_str, de_fn, de_rol, de_lst, de_tup, de_dct, de_dtt, de_ins, mCB_e, kCB_e, getAll_n, getAll_c, g2_e, mVals_e, kVl_e, vals_n, vals_c, aNil_e, aCons_e, kC1_e, kC2_e, mT_e, kTb_e, tAnd_e, kAn_t, kAn_f, tOr_e, kOr_t, kOr_f, tNot_e, kNt_e, mTru_e, kTr_e, kO_s, dTru_b, mIf_e, kIfe_t, kIfe_f, mAnd_e, kAnd_t, kAnd_f, mOr_e, kOr2_t, kOr2_f, mNot_e, kNot2_e, kFr_o, mFn_e, kF1_e, kFn_e, mFnK_e, kK1_e, v2_e, kK2_e, mMut_e, kMu_e, mMut0_e, oM_e, kMut_e, pNone_e, pSome_e, kPs_e, mCut_e, kCt1_e, kCt2_e, oC3_e, kCt3_e, fM_e, endF_n, endF_r, dAdd_i, dAdd_s, dAdd_l, dAdd_t, dSub_i, dMul_i, dDiv_i, dMod_i, dPow_i, dLt_i, dLe_i, dGt_i, dGe_i, dLt_s, dEq_i, dEq_b, dEq_s, dNe_i, dNe_b, dNe_s, dInt_i, dAbs_i, dLen_l, dLen_r, dLen_t, dLen_s, dIx_l, dIx_r, dIx_t, dList_l, dList_r, dList_t, dTuple_l, dTuple_t, dDispL_e, dDispT_e, dIsN_n, dNotN_n, dIsN_bool, dNotN_bool, dIsN_int, dNotN_int, dIsN_str, dNotN_str, dIsN_lst, dNotN_lst, dIsN_tup, dNotN_tup, dIsi_non, dIsiT_non, dIsi_bool, dIsiT_bool, dIsi_int, dIsiT_int, dIsi_str, dIsiT_str, dIsi_lst, dIsiT_lst, dIsi_rol, dIsiT_rol, dIsi_tup, dIsiT_tup, mChain_e, kH1_e, kH2_e, kH3_t, kH3_f, kH4_e, mM1_e, kM1_e, kM2_e, kM3_e, mJs_n, mJs_c, kJ_e, dFmt_s, dNeg_i, dDivmod_e, dMax2_e, dMin2_e, dCut_l, dCut_r, dCut_t, dCut_s, dPop_e, fApp_e, List.getElem?_cons_zero, List.getElem?_cons_succ, List.set_cons_zero, List.set_cons_succ, Option.bind_some, Option.bind_none, Option.map_some, Option.map_none, List.map_cons, List.map_nil, List.length_cons, List.length_nil, List.replicate, List.cons_append, List.nil_append, List.set_set, if_true, if_false, ite_true, ite_false, reduceIte, Nat.reduceAdd, Nat.reduceSub, Nat.zero_add, Nat.add_zero, Bool.not_true, Bool.not_false, decide_true, decide_false, Bool.true_and, Bool.and_true, Bool.false_and, Bool.and_false, Bool.or_true, Bool.true_or, Bool.or_false, Bool.false_or, eq_self]
  · rcases List.mem_append.mp h3 with h3 | h3
    · simp only [List.mem_cons, List.not_mem_nil, or_false] at h3
      rcases h3 with rfl | rfl | rfl | rfl | rfl | rfl | rfl | rfl | rfl | rfl | rfl | rfl | rfl | rfl | rfl
      · exact .non
      · exact .bool _
      · exact .bool _
      · exact .str (ascs _ 0 (by decide) (by decide) (by decide))
      · exact .str (ascs _ 1 (by decide) (by decide) (by decide))
      · exact .int _
      · exact .int _
      · exact .tup (by simp) fun d hd => by cases hd
      · exact .lst (by simp) fun d hd => by cases hd
      · exact .tup (by simp) fun d hd => by
          have : d = .int 1 := by simpa using hd
          rw [this]; exact .int _
      · exact .lst (by simp) fun d hd => by
          have : d = .str "a" := by simpa using hd
          rw [this]; exact .str (ascs _ 1 (by decide) (by decide) (by decide))
      · exact .str (ascs _ 3 (by decide) (by decide) (by decide))
      · exact .str (ascs _ 7 (by decide) (by decide) (by decide))
      · exact .tup (by simp) fun d hd => by
          have : d = .str "a" ∨ d = .str "b" := by simpa using hd
          rcases this with rfl | rfl
          · exact .str (ascs _ 1 (by decide) (by decide) (by decide))
          · exact .str (ascs _ 1 (by decide) (by decide) (by decide))
      · exact .lst (by simp) fun d hd => by
          have : d = .non := by simpa using hd
          rw [this]; exact .non
    · exact h x h3
theorem seqIx {j n : Nat} (h : j < n) : seqIndex? (j : Int) n = some j := by
  have := PySem.StrLaws.seqIndex_nonneg (i := (j : Int)) (n := n) (by omega) (by omega)
  rw [this, Int.toNat_natCast]
theorem mixed_ok {c : CL} {xs : List EV.D} (B : Bg c) (hl : xs.length ≤ 50) : ∃ ys c', f__law_mixed [.cell 0, .lst xs] c = .ok (.lst ys, true) [] c' ∧ Bg c' ∧ ys.length = xs.length ∧ ∀ y ∈ ys, y ∈ xs := by
  have loop : ∀ Q : Fl → Prop, (∀ ys x4 c', Bg c' → ys.length = xs.length → (∀ y ∈ ys, y ∈ xs) → Q (.nx [.fz (.cell 0), .fz (.lst xs), .ow (.lst []), .ow (.lst ys), x4] c')) →
      Q (sFor (iRng1 (aCons (mOf (mCB dLen (aCons (mBw 1) aNil))) aNil)) (gN 4) (sExp (mMut fAppend 3 (aCons (mOf (mMut fPopAt 2 (aCons (mOf (mFn 2 f__law_draw (aCons (mOf (mVar 0)) (aCons (mOf (mCB dLen (aCons (mBw 2) aNil))) aNil)))) aNil))) aNil))) [.fz (.cell 0), .fz (.lst xs), .ow (.lst xs), .ow (.lst []), .no] c) := by
    intro Q hQ
    refine sFor_go (ds := rngD 0 xs.length) (s1 := [.fz (.cell 0), .fz (.lst xs), .ow (.lst xs), .ow (.lst []), .no]) (c1 := c) ?_ (fun i s c => ∃ l f x4, s = [.fz (.cell 0), .fz (.lst xs), .ow (.lst l), .ow (.lst f), x4] ∧ Bg c ∧ l.length + i = xs.length ∧ f.length = i ∧ (∀ y ∈ l, y ∈ xs) ∧ ∀ y ∈ f, y ∈ xs) Q
      ⟨xs, [], .no, rfl, B, rfl, rfl, fun y h => h, fun y h => by cases h⟩ ?_ ?_
    · have := iRng1_e (m := aCons (mOf (mCB dLen (aCons (mBw 1) aNil))) aNil) (s := [.fz (.cell 0), .fz (.lst xs), .ow (.lst xs), .ow (.lst []), .no]) (s1 := [.fz (.cell 0), .fz (.lst xs), .ow (.lst xs), .ow (.lst []), .no]) (c := c) (c1 := c) (ods := [.dv (.int (xs.length : Int))]) (j := (xs.length : Int)) (by simp only [b_ok, b_bad, b_ex, f_ok, f_bad, f_ex, n_nx, n_rt, n_bk, n_ct, n_ex, n_bad, l_nx, l_rt, l_bk, l_ct, l_ex, l_bad, sNx_e, sSeq_e, sBk_e, sCt_e, sRetN_e, sExp_e, kExp_e, sRet_e, kRet_e, sIf_e, kIf_t, kIf_f, sSet_e, kSet_e, svOf_t, svOf_f, sSetC_e, kCell_e, sAsg_e, kG1_e, oF_s, oF_n, gN_e, gT_e, gsNil_e, gsCons_e, sPar_e, kPar1_e, kPar2_e, sPar3_e, kPr1_e, kPr2_e, kPr3_e, sPut_e, kPut1_e, kPut2_e, isLst_l, kPut_e, kPt_e, kPu_e, plGet_e, pG_o, pG_c, plS_e, pS_o, pS_f, plC_e, pC_o, pC_c, mFr_e, kFz_e, mVar_e, kVar_f, kVar_o, mMov_e, kMov_f, kMov_o, mBw_e, kBw_f, kBw_o, mCon_e, mOf_e, kOf_e, o2_e, m2_e, k2a_e, k2b_e, kDB_s, kDB_n, fl_e, m1_e, k1a_e, get_dv, get_bw, sv_f, sv_o, sv_n, de_cell, de_non, de_bool, de_int, de_str, de_fn, de_rol, de_lst, de_tup, de_dct, de_dtt, de_ins, mCB_e, kCB_e, getAll_n, getAll_c, g2_e, mVals_e, kVl_e, vals_n, vals_c, aNil_e, aCons_e, kC1_e, kC2_e, mT_e, kTb_e, tAnd_e, kAn_t, kAn_f, tOr_e, kOr_t, kOr_f, tNot_e, kNt_e, mTru_e, kTr_e, kO_s, dTru_b, mIf_e, kIfe_t, kIfe_f, mAnd_e, kAnd_t, kAnd_f, mOr_e, kOr2_t, kOr2_f, mNot_e, kNot2_e, kFr_o, mFn_e, kF1_e, kFn_e, mFnK_e, kK1_e, v2_e, kK2_e, mMut_e, kMu_e, mMut0_e, oM_e, kMut_e, pNone_e, pSome_e, kPs_e, mCut_e, kCt1_e, kCt2_e, oC3_e, kCt3_e, fM_e, endF_n, endF_r, dAdd_i, dAdd_s, dAdd_l, dAdd_t, dSub_i, dMul_i, dDiv_i, dMod_i, dPow_i, dLt_i, dLe_i, dGt_i, dGe_i, dLt_s, dEq_i, dEq_b, dEq_s, dNe_i, dNe_b, dNe_s, dInt_i, dAbs_i, dLen_l, dLen_r, dLen_t, dLen_s, dIx_l, dIx_r, dIx_t, dList_l, dList_r, dList_t, dTuple_l, dTuple_t, dDispL_e, dDispT_e, dIsN_n, dNotN_n, dIsN_bool, dNotN_bool, dIsN_int, dNotN_int, dIsN_str, dNotN_str, dIsN_lst, dNotN_lst, dIsN_tup, dNotN_tup, dIsi_non, dIsiT_non, dIsi_bool, dIsiT_bool, dIsi_int, dIsiT_int, dIsi_str, dIsiT_str, dIsi_lst, dIsiT_lst, dIsi_rol, dIsiT_rol, dIsi_tup, dIsiT_tup, mChain_e, kH1_e, kH2_e, kH3_t, kH3_f, kH4_e, mM1_e, kM1_e, kM2_e, kM3_e, mJs_n, mJs_c, kJ_e, dFmt_s, dNeg_i, dDivmod_e, dMax2_e, dMin2_e, dCut_l, dCut_r, dCut_t, dCut_s, dPop_e, fApp_e, List.getElem?_cons_zero, List.getElem?_cons_succ, List.set_cons_zero, List.set_cons_succ, Option.bind_some, Option.bind_none, Option.map_some, Option.map_none, List.map_cons, List.map_nil, List.length_cons, List.length_nil, List.replicate, List.cons_append, List.nil_append, List.set_set, if_true, if_false, ite_true, ite_false, reduceIte, Nat.reduceAdd, Nat.reduceSub, Nat.zero_add, Nat.add_zero, Bool.not_true, Bool.not_false, decide_true, decide_false, Bool.true_and, Bool.and_true, Bool.false_and, Bool.and_false, Bool.or_true, Bool.true_or, Bool.or_false, Bool.false_or, eq_self]) (by simp only [b_ok, b_bad, b_ex, f_ok, f_bad, f_ex, n_nx, n_rt, n_bk, n_ct, n_ex, n_bad, l_nx, l_rt, l_bk, l_ct, l_ex, l_bad, sNx_e, sSeq_e, sBk_e, sCt_e, sRetN_e, sExp_e, kExp_e, sRet_e, kRet_e, sIf_e, kIf_t, kIf_f, sSet_e, kSet_e, svOf_t, svOf_f, sSetC_e, kCell_e, sAsg_e, kG1_e, oF_s, oF_n, gN_e, gT_e, gsNil_e, gsCons_e, sPar_e, kPar1_e, kPar2_e, sPar3_e, kPr1_e, kPr2_e, kPr3_e, sPut_e, kPut1_e, kPut2_e, isLst_l, kPut_e, kPt_e, kPu_e, plGet_e, pG_o, pG_c, plS_e, pS_o, pS_f, plC_e, pC_o, pC_c, mFr_e, kFz_e, mVar_e, kVar_f, kVar_o, mMov_e, kMov_f, kMov_o, mBw_e, kBw_f, kBw_o, mCon_e, mOf_e, kOf_e, o2_e, m2_e, k2a_e, k2b_e, kDB_s, kDB_n, fl_e, m1_e, k1a_e, get_dv, get_bw, sv_f, sv_o, sv_n, de_cell, de_non, de_bool, de_int, de_str, de_fn, de_rol, de_lst, de_tup, de_dct, de_dtt, de_ins, mCB_e, kCB_e, getAll_n, getAll_c, g2_e, mVals_e, kVl_e, vals_n, vals_c, aNil_e, aCons_e, kC1_e, kC2_e, mT_e, kTb_e, tAnd_e, kAn_t, kAn_f, tOr_e, kOr_t, kOr_f, tNot_e, kNt_e, mTru_e, kTr_e, kO_s, dTru_b, mIf_e, kIfe_t, kIfe_f, mAnd_e, kAnd_t, kAnd_f, mOr_e, kOr2_t, kOr2_f, mNot_e, kNot2_e, kFr_o, mFn_e, kF1_e, kFn_e, mFnK_e, kK1_e, v2_e, kK2_e, mMut_e, kMu_e, mMut0_e, oM_e, kMut_e, pNone_e, pSome_e, kPs_e, mCut_e, kCt1_e, kCt2_e, oC3_e, kCt3_e, fM_e, endF_n, endF_r, dAdd_i, dAdd_s, dAdd_l, dAdd_t, dSub_i, dMul_i, dDiv_i, dMod_i, dPow_i, dLt_i, dLe_i, dGt_i, dGe_i, dLt_s, dEq_i, dEq_b, dEq_s, dNe_i, dNe_b, dNe_s, dInt_i, dAbs_i, dLen_l, dLen_r, dLen_t, dLen_s, dIx_l, dIx_r, dIx_t, dList_l, dList_r, dList_t, dTuple_l, dTuple_t, dDispL_e, dDispT_e, dIsN_n, dNotN_n, dIsN_bool, dNotN_bool, dIsN_int, dNotN_int, dIsN_str, dNotN_str, dIsN_lst, dNotN_lst, dIsN_tup, dNotN_tup, dIsi_non, dIsiT_non, dIsi_bool, dIsiT_bool, dIsi_int, dIsiT_int, dIsi_str, dIsiT_str, dIsi_lst, dIsiT_lst, dIsi_rol, dIsiT_rol, dIsi_tup, dIsiT_tup, mChain_e, kH1_e, kH2_e, kH3_t, kH3_f, kH4_e, mM1_e, kM1_e, kM2_e, kM3_e, mJs_n, mJs_c, kJ_e, dFmt_s, dNeg_i, dDivmod_e, dMax2_e, dMin2_e, dCut_l, dCut_r, dCut_t, dCut_s, dPop_e, fApp_e, List.getElem?_cons_zero, List.getElem?_cons_succ, List.set_cons_zero, List.set_cons_succ, Option.bind_some, Option.bind_none, Option.map_some, Option.map_none, List.map_cons, List.map_nil, List.length_cons, List.length_nil, List.replicate, List.cons_append, List.nil_append, List.set_set, if_true, if_false, ite_true, ite_false, reduceIte, Nat.reduceAdd, Nat.reduceSub, Nat.zero_add, Nat.add_zero, Bool.not_true, Bool.not_false, decide_true, decide_false, Bool.true_and, Bool.and_true, Bool.false_and, Bool.and_false, Bool.or_true, Bool.true_or, Bool.or_false, Bool.false_or, eq_self]) (by omega)
      rw [this, Int.toNat_natCast]
    · rintro s c ⟨l, f, x4, rfl, b, e1, e2, e3, e4⟩
      rw [rngD_len] at e1 e2
      have : l = [] := List.eq_nil_of_length_eq_zero (by omega)
      subst this
      exact hQ f x4 c b e2 e4
    · rintro i d s c hd ⟨l, f, x4, rfl, b, e1, e2, e3, e4⟩
      have hi : i < xs.length := by
        have := (List.getElem?_eq_some_iff.mp hd).1
        rw [rngD_len] at this
        exact this
      obtain ⟨j, c', g1, g2, g3⟩ := draw_bg b (sides := (l.length : Int)) (by omega) (by omega)
      have hj : j < l.length := by omega
      refine ⟨_, rfl, ?_⟩
      have z1 : (-(2 ^ 63) ≤ (j : Int) ∧ (j : Int) < 2 ^ 63) = True := eq_true (by omega)
      have z2 : (f.length < sizeLine) = True := eq_true (by have : sizeLine = 16777216 := sizeLine_eq; omega)
      have z3 : l[j]? = some l[j] := List.getElem?_eq_getElem hj
      simp only [g1, z1, z2, seqIx hj, z3, b_ok, b_bad, b_ex, f_ok, f_bad, f_ex, n_nx, n_rt, n_bk, n_ct, n_ex, n_bad, l_nx, l_rt, l_bk, l_ct, l_ex, l_bad, sNx_e, sSeq_e, sBk_e, sCt_e, sRetN_e, sExp_e, kExp_e, sRet_e, kRet_e, sIf_e, kIf_t, kIf_f, sSet_e, kSet_e, svOf_t, svOf_f, sSetC_e, kCell_e, sAsg_e, kG1_e, oF_s, oF_n, gN_e, gT_e, gsNil_e, gsCons_e, sPar_e, kPar1_e, kPar2_e, sPar3_e, kPr1_e, kPr2_e, kPr3_e, sPut_e, kPut1_e, kPut2_e, isLst_l, kPut_e, kPt_e, kPu_e, plGet_e, pG_o, pG_c, plS_e, pS_o, pS_f, plC_e, pC_o, pC_c, mFr_e, kFz_e, mVar_e, kVar_f, kVar_o, mMov_e, kMov_f, kMov_o, mBw_e, kBw_f, kBw_o, mCon_e, mOf_e, kOf_e, o2_e, m2_e, k2a_e, k2b_e, kDB_s, kDB_n, fl_e, m1_e, k1a_e, get_dv, get_bw, sv_f, sv_o, sv_n, de_cell, de_non, de_bool, de_int, de_str, de_fn, de_rol, de_lst, de_tup, de_dct, de_dtt, de_ins, mCB_e, kCB_e, getAll_n, getAll_c, g2_e, mVals_e, kVl_e, vals_n, vals_c, aNil_e, aCons_e, kC1_e, kC2_e, mT_e, kTb_e, tAnd_e, kAn_t, kAn_f, tOr_e, kOr_t, kOr_f, tNot_e, kNt_e, mTru_e, kTr_e, kO_s, dTru_b, mIf_e, kIfe_t, kIfe_f, mAnd_e, kAnd_t, kAnd_f, mOr_e, kOr2_t, kOr2_f, mNot_e, kNot2_e, kFr_o, mFn_e, kF1_e, kFn_e, mFnK_e, kK1_e, v2_e, kK2_e, mMut_e, kMu_e, mMut0_e, oM_e, kMut_e, pNone_e, pSome_e, kPs_e, mCut_e, kCt1_e, kCt2_e, oC3_e, kCt3_e, fM_e, endF_n, endF_r, dAdd_i, dAdd_s, dAdd_l, dAdd_t, dSub_i, dMul_i, dDiv_i, dMod_i, dPow_i, dLt_i, dLe_i, dGt_i, dGe_i, dLt_s, dEq_i, dEq_b, dEq_s, dNe_i, dNe_b, dNe_s, dInt_i, dAbs_i, dLen_l, dLen_r, dLen_t, dLen_s, dIx_l, dIx_r, dIx_t, dList_l, dList_r, dList_t, dTuple_l, dTuple_t, dDispL_e, dDispT_e, dIsN_n, dNotN_n, dIsN_bool, dNotN_bool, dIsN_int, dNotN_int, dIsN_str, dNotN_str, dIsN_lst, dNotN_lst, dIsN_tup, dNotN_tup, dIsi_non, dIsiT_non, dIsi_bool, dIsiT_bool, dIsi_int, dIsiT_int, dIsi_str, dIsiT_str, dIsi_lst, dIsiT_lst, dIsi_rol, dIsiT_rol, dIsi_tup, dIsiT_tup, mChain_e, kH1_e, kH2_e, kH3_t, kH3_f, kH4_e, mM1_e, kM1_e, kM2_e, kM3_e, mJs_n, mJs_c, kJ_e, dFmt_s, dNeg_i, dDivmod_e, dMax2_e, dMin2_e, dCut_l, dCut_r, dCut_t, dCut_s, dPop_e, fApp_e, List.getElem?_cons_zero, List.getElem?_cons_succ, List.set_cons_zero, List.set_cons_succ, Option.bind_some, Option.bind_none, Option.map_some, Option.map_none, List.map_cons, List.map_nil, List.length_cons, List.length_nil, List.replicate, List.cons_append, List.nil_append, List.set_set, if_true, if_false, ite_true, ite_false, reduceIte, Nat.reduceAdd, Nat.reduceSub, Nat.zero_add, Nat.add_zero, Bool.not_true, Bool.not_false, decide_true, decide_false, Bool.true_and, Bool.and_true, Bool.false_and, Bool.and_false, Bool.or_true, Bool.true_or, Bool.or_false, Bool.false_or, eq_self]
      refine ⟨l.eraseIdx j, f ++ [l[j]], .fz d, rfl, g2, by rw [List.length_eraseIdx_of_lt hj]; omega, by rw [List.length_append, e2]; rfl, fun y hy => e3 y (List.mem_of_mem_eraseIdx hy), fun y hy => ?_⟩
      rcases List.mem_append.mp hy with hy | hy
      · exact e4 y hy
      · have : y = l[j] := by simpa using hy
        rw [this]
        exact e3 _ (List.getElem_mem hj)
  have z0 : ((0 : Nat) ≤ sizeLine) = True := lineN (by decide)
  have e3 : sPar 2 3 (mCB dList (aCons (mBw 1) aNil)) (mVals dDispL aNil) [.fz (.cell 0), .fz (.lst xs), .no, .no, .no] c = .nx [.fz (.cell 0), .fz (.lst xs), .ow (.lst xs), .ow (.lst []), .no] c := by
    simp only [z0, b_ok, b_bad, b_ex, f_ok, f_bad, f_ex, n_nx, n_rt, n_bk, n_ct, n_ex, n_bad, l_nx, l_rt, l_bk, l_ct, l_ex, l_bad, sNx_e, sSeq_e, sBk_e, sCt_e, sRetN_e, sExp_e, kExp_e, sRet_e, kRet_e, sIf_e, kIf_t, kIf_f, sSet_e, kSet_e, svOf_t, svOf_f, sSetC_e, kCell_e, sAsg_e, kG1_e, oF_s, oF_n, gN_e, gT_e, gsNil_e, gsCons_e, sPar_e, kPar1_e, kPar2_e, sPar3_e, kPr1_e, kPr2_e, kPr3_e, sPut_e, kPut1_e, kPut2_e, isLst_l, kPut_e, kPt_e, kPu_e, plGet_e, pG_o, pG_c, plS_e, pS_o, pS_f, plC_e, pC_o, pC_c, mFr_e, kFz_e, mVar_e, kVar_f, kVar_o, mMov_e, kMov_f, kMov_o, mBw_e, kBw_f, kBw_o, mCon_e, mOf_e, kOf_e, o2_e, m2_e, k2a_e, k2b_e, kDB_s, kDB_n, fl_e, m1_e, k1a_e, get_dv, get_bw, sv_f, sv_o, sv_n, de_cell, de_non, de_bool, de_int, de_str, de_fn, de_rol, de_lst, de_tup, de_dct, de_dtt, de_ins, mCB_e, kCB_e, getAll_n, getAll_c, g2_e, mVals_e, kVl_e, vals_n, vals_c, aNil_e, aCons_e, kC1_e, kC2_e, mT_e, kTb_e, tAnd_e, kAn_t, kAn_f, tOr_e, kOr_t, kOr_f, tNot_e, kNt_e, mTru_e, kTr_e, kO_s, dTru_b, mIf_e, kIfe_t, kIfe_f, mAnd_e, kAnd_t, kAnd_f, mOr_e, kOr2_t, kOr2_f, mNot_e, kNot2_e, kFr_o, mFn_e, kF1_e, kFn_e, mFnK_e, kK1_e, v2_e, kK2_e, mMut_e, kMu_e, mMut0_e, oM_e, kMut_e, pNone_e, pSome_e, kPs_e, mCut_e, kCt1_e, kCt2_e, oC3_e, kCt3_e, fM_e, endF_n, endF_r, dAdd_i, dAdd_s, dAdd_l, dAdd_t, dSub_i, dMul_i, dDiv_i, dMod_i, dPow_i, dLt_i, dLe_i, dGt_i, dGe_i, dLt_s, dEq_i, dEq_b, dEq_s, dNe_i, dNe_b, dNe_s, dInt_i, dAbs_i, dLen_l, dLen_r, dLen_t, dLen_s, dIx_l, dIx_r, dIx_t, dList_l, dList_r, dList_t, dTuple_l, dTuple_t, dDispL_e, dDispT_e, dIsN_n, dNotN_n, dIsN_bool, dNotN_bool, dIsN_int, dNotN_int, dIsN_str, dNotN_str, dIsN_lst, dNotN_lst, dIsN_tup, dNotN_tup, dIsi_non, dIsiT_non, dIsi_bool, dIsiT_bool, dIsi_int, dIsiT_int, dIsi_str, dIsiT_str, dIsi_lst, dIsiT_lst, dIsi_rol, dIsiT_rol, dIsi_tup, dIsiT_tup, mChain_e, kH1_e, kH2_e, kH3_t, kH3_f, kH4_e, mM1_e, kM1_e, kM2_e, kM3_e, mJs_n, mJs_c, kJ_e, dFmt_s, dNeg_i, dDivmod_e, dMax2_e, dMin2_e, dCut_l, dCut_r, dCut_t, dCut_s, dPop_e, fApp_e, List.getElem?_cons_zero, List.getElem?_cons_succ, List.set_cons_zero, List.set_cons_succ, Option.bind_some, Option.bind_none, Option.map_some, Option.map_none, List.map_cons, List.map_nil, List.length_cons, List.length_nil, List.replicate, List.cons_append, List.nil_append, List.set_set, if_true, if_false, ite_true, ite_false, reduceIte, Nat.reduceAdd, Nat.reduceSub, Nat.zero_add, Nat.add_zero, Bool.not_true, Bool.not_false, decide_true, decide_false, Bool.true_and, Bool.and_true, Bool.false_and, Bool.and_false, Bool.or_true, Bool.true_or, Bool.or_false, Bool.false_or, eq_self]
  unfold f__law_mixed m__law_mixed
  simp only [fM_e, List.map_cons, List.map_nil, List.length_cons, List.length_nil, Nat.reduceAdd, Nat.zero_add, Nat.reduceSub, List.replicate, List.cons_append, List.nil_append, sSeq_e, e3, n_nx]
  refine loop (fun o => ∃ ys c', endF (o.nxt (sRet (mMov 3))) = .ok (.lst ys, true) [] c' ∧ Bg c' ∧ ys.length = xs.length ∧ ∀ y ∈ ys, y ∈ xs) fun ys x4 c' b l m => ⟨ys, c', ?_, b, l, m⟩
  simp only [b_ok, b_bad, b_ex, f_ok, f_bad, f_ex, n_nx, n_rt, n_bk, n_ct, n_ex, n_bad, l_nx, l_rt, l_bk, l_ct, l_ex, l_bad, sNx_e, sSeq_e, sBk_e, sCt_e, sRetN_e, sExp_e, kExp_e, sRet_e, kRet_e, sIf_e, kIf_t, kIf_f, sSet_e, kSet_e, svOf_t, svOf_f, sSetC_e, kCell_e, sAsg_e, kG1_e, oF_s, oF_n, gN_e, gT_e, gsNil_e, gsCons_e, sPar_e, kPar1_e, kPar2_e, sPar3_e, kPr1_e, kPr2_e, kPr3_e, sPut_e, kPut1_e, kPut2_e, isLst_l, kPut_e, kPt_e, kPu_e, plGet_e, pG_o, pG_c, plS_e, pS_o, pS_f, plC_e, pC_o, pC_c, mFr_e, kFz_e, mVar_e, kVar_f, kVar_o, mMov_e, kMov_f, kMov_o, mBw_e, kBw_f, kBw_o, mCon_e, mOf_e, kOf_e, o2_e, m2_e, k2a_e, k2b_e, kDB_s, kDB_n, fl_e, m1_e, k1a_e, get_dv, get_bw, sv_f, sv_o, sv_n, de_cell, de_non, de_bool, de_int, de_str, de_fn, de_rol, de_lst, de_tup, de_dct, de_dtt, de_ins, mCB_e, kCB_e, getAll_n, getAll_c, g2_e, mVals_e, kVl_e, vals_n, vals_c, aNil_e, aCons_e, kC1_e, kC2_e, mT_e, kTb_e, tAnd_e, kAn_t, kAn_f, tOr_e, kOr_t, kOr_f, tNot_e, kNt_e, mTru_e, kTr_e, kO_s, dTru_b, mIf_e, kIfe_t, kIfe_f, mAnd_e, kAnd_t, kAnd_f, mOr_e, kOr2_t, kOr2_f, mNot_e, kNot2_e, kFr_o, mFn_e, kF1_e, kFn_e, mFnK_e, kK1_e, v2_e, kK2_e, mMut_e, kMu_e, mMut0_e, oM_e, kMut_e, pNone_e, pSome_e, kPs_e, mCut_e, kCt1_e, kCt2_e, oC3_e, kCt3_e, fM_e, endF_n, endF_r, dAdd_i, dAdd_s, dAdd_l, dAdd_t, dSub_i, dMul_i, dDiv_i, dMod_i, dPow_i, dLt_i, dLe_i, dGt_i, dGe_i, dLt_s, dEq_i, dEq_b, dEq_s, dNe_i, dNe_b, dNe_s, dInt_i, dAbs_i, dLen_l, dLen_r, dLen_t, dLen_s, dIx_l, dIx_r, dIx_t, dList_l, dList_r, dList_t, dTuple_l, dTuple_t, dDispL_e, dDispT_e, dIsN_n, dNotN_n, dIsN_bool, dNotN_bool, dIsN_int, dNotN_int, dIsN_str, dNotN_str, dIsN_lst, dNotN_lst, dIsN_tup, dNotN_tup, dIsi_non, dIsiT_non, dIsi_bool, dIsiT_bool, dIsi_int, dIsiT_int, dIsi_str, dIsiT_str, dIsi_lst, dIsiT_lst, dIsi_rol, dIsiT_rol, dIsi_tup, dIsiT_tup, mChain_e, kH1_e, kH2_e, kH3_t, kH3_f, kH4_e, mM1_e, kM1_e, kM2_e, kM3_e, mJs_n, mJs_c, kJ_e, dFmt_s, dNeg_i, dDivmod_e, dMax2_e, dMin2_e, dCut_l, dCut_r, dCut_t, dCut_s, dPop_e, fApp_e, List.getElem?_cons_zero, List.getElem?_cons_succ, List.set_cons_zero, List.set_cons_succ, Option.bind_some, Option.bind_none, Option.map_some, Option.map_none, List.map_cons, List.map_nil, List.length_cons, List.length_nil, List.replicate, List.cons_append, List.nil_append, List.set_set, if_true, if_false, ite_true, ite_false, reduceIte, Nat.reduceAdd, Nat.reduceSub, Nat.zero_add, Nat.add_zero, Bool.not_true, Bool.not_false, decide_true, decide_false, Bool.true_and, Bool.and_true, Bool.false_and, Bool.and_false, Bool.or_true, Bool.true_or, Bool.or_false, Bool.false_or, eq_self]
end KW

set_option Elab.async false
set_option linter.all false
set_option maxRecDepth 100000
namespace KW
open PySem PySem.Spec L2 EV
open PyProof.Rows hiding St
/-! ### names -/
theorem erase_len {x : Str} : ∀ {m : List Str}, x ∈ m → (m.erase x).length + 1 = m.length := fun h => by
  rw [List.length_erase_of_mem h]
  have := List.length_pos_of_mem h
  omega
theorem sub_len : ∀ {l m : List Str}, l.Nodup → (∀ x ∈ l, x ∈ m) → l.length ≤ m.length
  | [], _, _, _ => Nat.zero_le _
  | x :: l, m, h, hm => by
    have hx := hm x (List.mem_cons_self ..)
    obtain ⟨h1, h2⟩ := List.nodup_cons.mp h
    have := sub_len (l := l) (m := m.erase x) h2 fun y hy => by
      have ne : y ≠ x := fun e => h1 (by rw [← e]; exact hy)
      exact (List.mem_erase_of_ne ne).mpr (hm y (List.mem_cons_of_mem _ hy))
    have e := erase_len hx
    simp only [List.length_cons]
    omega
def inS (w : Str) (ws : List Str) : Bool := ws.any (fun y => y == w)
theorem flat_strs : ∀ ws : List Str, (ws.map EV.D.str).all dFlat = true := fun ws => by
  rw [List.all_map]
  exact List.all_eq_true.mpr fun _ _ => rfl
theorem dInB_strs {w : Str} {ws : List Str} : dInB (.str w) (.lst (ws.map .str)) = some (inS w ws) := by
  show dInL (.str w) (ws.map .str) = _
  unfold dInL
  rw [if_pos ⟨rfl, flat_strs ws⟩, List.any_map]
  rfl
theorem dIn_strs {w : Str} {ws : List Str} : dIn (.str w) (.lst (ws.map .str)) = some (.bool (inS w ws), false) := by unfold dIn; rw [dInB_strs]; rfl
theorem dNotIn_strs {w : Str} {ws : List Str} : dNotIn (.str w) (.lst (ws.map .str)) = some (.bool (!inS w ws), false) := by unfold dNotIn; rw [dInB_strs]; rfl
def sgns : Str := "mabcdefghijklnopqrstuvwxyz"
theorem sgns26 : AscN 26 sgns := ascL 26 (by decide) (by decide)
def sgnL : List Str := sgns.cps.toList.map fun k => ⟨#[k]⟩
theorem sgnL_nodup : sgnL.Nodup := by decide +kernel
theorem sgnL_len : sgnL.length = 26 := by decide +kernel
theorem sgn_free {ws : List Str} (h : ws.length < 26) : ∃ k ∈ sgns.cps.toList, inS ⟨#[k]⟩ ws = false := by
  by_cases g : ∃ k ∈ sgns.cps.toList, inS ⟨#[k]⟩ ws = false
  · exact g
  · exfalso
    have := sub_len (m := ws) sgnL_nodup fun x hx => by
      obtain ⟨k, h1, rfl⟩ := List.mem_map.mp hx
      have : inS ⟨#[k]⟩ ws = true := by
        cases e : inS ⟨#[k]⟩ ws with
        | true => rfl
        | false => exact absurd ⟨k, h1, e⟩ g
      obtain ⟨y, h2, h3⟩ := List.any_eq_true.mp this
      have : y = ⟨#[k]⟩ := by simpa using h3
      rw [← this]
      exact h2
    rw [sgnL_len] at this
    omega
def notIn (ws : List Str) (d : EV.D) : Bool := match d with
  | .str w => !inS w ws
  | _ => false
theorem filter_chr {ws : List Str} (h : ws.length < 26) : ∃ (k : Nat) (r : List EV.D), (chrs sgns).filter (notIn ws) = .str ⟨#[k]⟩ :: r ∧ k ∈ sgns.cps.toList := by
  obtain ⟨k, h1, h2⟩ := sgn_free h
  have hm : EV.D.str ⟨#[k]⟩ ∈ (chrs sgns).filter (notIn ws) := List.mem_filter.mpr ⟨List.mem_map.mpr ⟨k, h1, rfl⟩, by show (!inS ⟨#[k]⟩ ws) = true; rw [h2]; rfl⟩
  cases e : (chrs sgns).filter (notIn ws) with
  | nil => rw [e] at hm; cases hm
  | cons d r =>
    have hd : d ∈ (chrs sgns).filter (notIn ws) := by rw [e]; exact List.mem_cons_self ..
    obtain ⟨j, g1, g2⟩ := chrs_mem (List.mem_filter.mp hd).1
    exact ⟨j, r, by rw [g2], g1⟩
def wordsL : List Str := ["row", "even", "case", "offer", "end", "reason", "self", "none", "sum", "turn", "amount"]
theorem words_asc : ∀ w ∈ wordsL, AscN 6 w := by
  intro w hw
  simp only [wordsL, List.mem_cons, List.not_mem_nil, or_false] at hw
  rcases hw with rfl | rfl | rfl | rfl | rfl | rfl | rfl | rfl | rfl | rfl | rfl <;> exact ascL 6 (by decide) (by decide)
/-- the loop's state -/
def NmSt (many : Int) (signs : Str) (i : Nat) (s : SL) (c : CL) : Prop := ∃ (x3 x5 x6 : SV) (ws : List Str), s = [.fz (.cell 0), .fz (.int many), .fz (.str signs), x3, .ow (.lst (ws.map .str)), x5, x6, .no, .no] ∧ (x3 = .ow (.lst (wordsL.map .str)) ∨ x3 = .fz (.lst (wordsL.map .str))) ∧ Bg c ∧ ws.length = i ∧ ∀ w ∈ ws, AscN 10 w
def namesBody : MS := (sSeq (sIf (mT (m2 dEq (mOf (mFn 2 f__law_draw (aCons (mOf (mVar 0)) (aCons (mOf (mCon (.int 6))) aNil)))) (mOf (mCon (.int 5))))) (sSet 6 (mFn 2 f__law_of (aCons (mOf (mVar 0)) (aCons (mOf (mVar 3)) aNil)))) (sSet 6 (mM1 dJoin (mOf (mCon (.str ""))) (mOf (mLc (iRng1 (aCons (mOf (m2 dAdd (mOf (mCon (.int 1))) (mOf (mFn 2 f__law_draw (aCons (mOf (mVar 0)) (aCons (mOf (mCon (.int 6))) aNil)))))) aNil)) (gN 7) tYesM (mFn 2 f__law_of (aCons (mOf (mVar 0)) (aCons (mOf (mVar 2)) aNil))) [7]))))) (sSeq (sIf (mT (m2 dIn (mBw 6) (mBw 4))) (sSet 6 (m2 dIx (mOf (mLc (iAny (mOf (mCon (.str "mabcdefghijklnopqrstuvwxyz")))) (gN 8) (mT (m2 dNotIn (mBw 8) (mBw 4))) (mVar 8) [8])) (mOf (mCon (.int 0))))) sNx) (sExp (mMut fAppend 4 (aCons (mOf (mVar 6)) aNil)))))
/-- behind the word's choice -/
theorem names_tail {many : Int} {signs : Str} {i : Nat} {x3 x5 : SV} {ws : List Str} {w : Str} {c : CL} (h3 : x3 = .ow (.lst (wordsL.map .str)) ∨ x3 = .fz (.lst (wordsL.map .str))) (B : Bg c) (hl : ws.length = i) (hi : i ≤ 10) (hw : ∀ w ∈ ws, AscN 10 w) (ha : AscN 10 w) :
    ∃ s' c', (sSeq (sIf (mT (m2 dIn (mBw 6) (mBw 4))) (sSet 6 (m2 dIx (mOf (mLc (iAny (mOf (mCon (.str "mabcdefghijklnopqrstuvwxyz")))) (gN 8) (mT (m2 dNotIn (mBw 8) (mBw 4))) (mVar 8) [8])) (mOf (mCon (.int 0))))) sNx) (sExp (mMut fAppend 4 (aCons (mOf (mVar 6)) aNil)))) [.fz (.cell 0), .fz (.int many), .fz (.str signs), x3, .ow (.lst (ws.map .str)), x5, .fz (.str w), .no, .no] c = .nx s' c' ∧ NmSt many signs (i + 1) s' c' := by
  have fin : ∀ v : Str, AscN 10 v → NmSt many signs (i + 1) [.fz (.cell 0), .fz (.int many), .fz (.str signs), x3, .ow (.lst ((ws ++ [v]).map .str)), x5, .fz (.str v), .no, .no] c := fun v hv => ⟨x3, x5, .fz (.str v), ws ++ [v], rfl, h3, B, by rw [List.length_append, hl]; rfl, fun y hy => by
    rcases List.mem_append.mp hy with hy | hy
    · exact hw y hy
    · have : y = v := by simpa using hy
      rw [this]
      exact hv⟩
  have z2 : ((ws.map EV.D.str).length < sizeLine) = True := eq_true (by have : sizeLine = 16777216 := sizeLine_eq; rw [List.length_map]; omega)
  cases e : inS w ws with
  | false =>
    refine ⟨_, c, ?_, fin w ha⟩
    simp only [dIn_strs, e, z2, List.map_append, b_ok, b_bad, b_ex, f_ok, f_bad, f_ex, n_nx, n_rt, n_bk, n_ct, n_ex, n_bad, l_nx, l_rt, l_bk, l_ct, l_ex, l_bad, sNx_e, sSeq_e, sBk_e, sCt_e, sRetN_e, sExp_e, kExp_e, sRet_e, kRet_e, sIf_e, kIf_t, kIf_f, sSet_e, kSet_e, svOf_t, svOf_f, sSetC_e, kCell_e, sAsg_e, kG1_e, oF_s, oF_n, gN_e, gT_e, gsNil_e, gsCons_e, sPar_e, kPar1_e, kPar2_e, sPar3_e, kPr1_e, kPr2_e, kPr3_e, sPut_e, kPut1_e, kPut2_e, isLst_l, kPut_e, kPt_e, kPu_e, plGet_e, pG_o, pG_c, plS_e, pS_o, pS_f, plC_e, pC_o, pC_c, mFr_e, kFz_e, mVar_e, kVar_f, kVar_o, mMov_e, kMov_f, kMov_o, mBw_e, kBw_f, kBw_o, mCon_e, mOf_e, kOf_e, o2_e, m2_e, k2a_e, k2b_e, kDB_s, kDB_n, fl_e, m1_e, k1a_e, get_dv, get_bw, sv_f, sv_o, sv_n, de_cell, de_non, de_bool, de_int, de_str, de_fn, de_rol, de_lst, de_tup, de_dct, de_dtt, de_ins, mCB_e, kCB_e, getAll_n, getAll_c, g2_e, mVals_e, kVl_e, vals_n, vals_c, aNil_e, aCons_e, kC1_e, kC2_e, mT_e, kTb_e, tAnd_e, kAn_t, kAn_f, tOr_e, kOr_t, kOr_f, tNot_e, kNt_e, mTru_e, kTr_e, kO_s, dTru_b, mIf_e, kIfe_t, kIfe_f, mAnd_e, kAnd_t, kAnd_f, mOr_e, kOr2_t, kOr2_f, mNot_e, kNot2_e, kFr_o, mFn_e, kF1_e, kFn_e, mFnK_e, kK1_e, v2_e, kK2_e, mMut_e, kMu_e, mMut0_e, oM_e, kMut_e, pNone_e, pSome_e, kPs_e, mCut_e, kCt1_e, kCt2_e, oC3_e, kCt3_e, fM_e, endF_n, endF_r, dAdd_i, dAdd_s, dAdd_l, dAdd_t, dSub_i, dMul_i, dDiv_i, dMod_i, dPow_i, dLt_i, dLe_i, dGt_i, dGe_i, dLt_s, dEq_i, dEq_b, dEq_s, dNe_i, dNe_b, dNe_s, dInt_i, dAbs_i, dLen_l, dLen_r, dLen_t, dLen_s, dIx_l, dIx_r, dIx_t, dList_l, dList_r, dList_t, dTuple_l, dTuple_t, dDispL_e, dDispT_e, dIsN_n, dNotN_n, dIsN_bool, dNotN_bool, dIsN_int, dNotN_int, dIsN_str, dNotN_str, dIsN_lst, dNotN_lst, dIsN_tup, dNotN_tup, dIsi_non, dIsiT_non, dIsi_bool, dIsiT_bool, dIsi_int, dIsiT_int, dIsi_str, dIsiT_str, dIsi_lst, dIsiT_lst, dIsi_rol, dIsiT_rol, dIsi_tup, dIsiT_tup, mChain_e, kH1_e, kH2_e, kH3_t, kH3_f, kH4_e, mM1_e, kM1_e, kM2_e, kM3_e, mJs_n, mJs_c, kJ_e, dFmt_s, dNeg_i, dDivmod_e, dMax2_e, dMin2_e, dCut_l, dCut_r, dCut_t, dCut_s, dPop_e, fApp_e, List.getElem?_cons_zero, List.getElem?_cons_succ, List.set_cons_zero, List.set_cons_succ, Option.bind_some, Option.bind_none, Option.map_some, Option.map_none, List.map_cons, List.map_nil, List.length_cons, List.length_nil, List.replicate, List.cons_append, List.nil_append, List.set_set, if_true, if_false, ite_true, ite_false, reduceIte, Nat.reduceAdd, Nat.reduceSub, Nat.zero_add, Nat.add_zero, Bool.not_true, Bool.not_false, decide_true, decide_false, Bool.true_and, Bool.and_true, Bool.false_and, Bool.and_false, Bool.or_true, Bool.true_or, Bool.or_false, Bool.false_or, eq_self]
  | true =>
    obtain ⟨k, r, h1, h2⟩ := filter_chr (ws := ws) (by omega)
    have lc : mLc (iAny (mOf (mCon (.str "mabcdefghijklnopqrstuvwxyz")))) (gN 8) (mT (m2 dNotIn (mBw 8) (mBw 4))) (mVar 8) [8] [.fz (.cell 0), .fz (.int many), .fz (.str signs), x3, .ow (.lst (ws.map .str)), x5, .fz (.str w), .no, .no] c = .ok (.lst (.str ⟨#[k]⟩ :: r), true) [.fz (.cell 0), .fz (.int many), .fz (.str signs), x3, .ow (.lst (ws.map .str)), x5, .fz (.str w), .no, .no] c := by
      have := mLc_pure (s := [.fz (.cell 0), .fz (.int many), .fz (.str signs), x3, .ow (.lst (ws.map .str)), x5, .fz (.str w), .no, .no]) (s1 := [.fz (.cell 0), .fz (.int many), .fz (.str signs), x3, .ow (.lst (ws.map .str)), x5, .fz (.str w), .no, .no]) (c := c) (c1 := c) (mi := iAny (mOf (mCon (.str "mabcdefghijklnopqrstuvwxyz")))) (g := gN 8) (t := mT (m2 dNotIn (mBw 8) (mBw 4))) (m := mVar 8) (vs := [8]) (p := notIn ws) (q := id) (ds := chrs sgns)
        (iAny_s (x := sgns) (by simp only [sgns, b_ok, b_bad, b_ex, f_ok, f_bad, f_ex, n_nx, n_rt, n_bk, n_ct, n_ex, n_bad, l_nx, l_rt, l_bk, l_ct, l_ex, l_bad, sNx_e, sSeq_e, sBk_e, sCt_e, sRetN_e, sExp_e, kExp_e, sRet_e, kRet_e, sIf_e, kIf_t, kIf_f, sSet_e, kSet_e, svOf_t, svOf_f, sSetC_e, kCell_e, sAsg_e, kG1_e, oF_s, oF_n, gN_e, gT_e, gsNil_e, gsCons_e, sPar_e, kPar1_e, kPar2_e, sPar3_e, kPr1_e, kPr2_e, kPr3_e, sPut_e, kPut1_e, kPut2_e, isLst_l, kPut_e, kPt_e, kPu_e, plGet_e, pG_o, pG_c, plS_e, pS_o, pS_f, plC_e, pC_o, pC_c, mFr_e, kFz_e, mVar_e, kVar_f, kVar_o, mMov_e, kMov_f, kMov_o, mBw_e, kBw_f, kBw_o, mCon_e, mOf_e, kOf_e, o2_e, m2_e, k2a_e, k2b_e, kDB_s, kDB_n, fl_e, m1_e, k1a_e, get_dv, get_bw, sv_f, sv_o, sv_n, de_cell, de_non, de_bool, de_int, de_str, de_fn, de_rol, de_lst, de_tup, de_dct, de_dtt, de_ins, mCB_e, kCB_e, getAll_n, getAll_c, g2_e, mVals_e, kVl_e, vals_n, vals_c, aNil_e, aCons_e, kC1_e, kC2_e, mT_e, kTb_e, tAnd_e, kAn_t, kAn_f, tOr_e, kOr_t, kOr_f, tNot_e, kNt_e, mTru_e, kTr_e, kO_s, dTru_b, mIf_e, kIfe_t, kIfe_f, mAnd_e, kAnd_t, kAnd_f, mOr_e, kOr2_t, kOr2_f, mNot_e, kNot2_e, kFr_o, mFn_e, kF1_e, kFn_e, mFnK_e, kK1_e, v2_e, kK2_e, mMut_e, kMu_e, mMut0_e, oM_e, kMut_e, pNone_e, pSome_e, kPs_e, mCut_e, kCt1_e, kCt2_e, oC3_e, kCt3_e, fM_e, endF_n, endF_r, dAdd_i, dAdd_s, dAdd_l, dAdd_t, dSub_i, dMul_i, dDiv_i, dMod_i, dPow_i, dLt_i, dLe_i, dGt_i, dGe_i, dLt_s, dEq_i, dEq_b, dEq_s, dNe_i, dNe_b, dNe_s, dInt_i, dAbs_i, dLen_l, dLen_r, dLen_t, dLen_s, dIx_l, dIx_r, dIx_t, dList_l, dList_r, dList_t, dTuple_l, dTuple_t, dDispL_e, dDispT_e, dIsN_n, dNotN_n, dIsN_bool, dNotN_bool, dIsN_int, dNotN_int, dIsN_str, dNotN_str, dIsN_lst, dNotN_lst, dIsN_tup, dNotN_tup, dIsi_non, dIsiT_non, dIsi_bool, dIsiT_bool, dIsi_int, dIsiT_int, dIsi_str, dIsiT_str, dIsi_lst, dIsiT_lst, dIsi_rol, dIsiT_rol, dIsi_tup, dIsiT_tup, mChain_e, kH1_e, kH2_e, kH3_t, kH3_f, kH4_e, mM1_e, kM1_e, kM2_e, kM3_e, mJs_n, mJs_c, kJ_e, dFmt_s, dNeg_i, dDivmod_e, dMax2_e, dMin2_e, dCut_l, dCut_r, dCut_t, dCut_s, dPop_e, fApp_e, List.getElem?_cons_zero, List.getElem?_cons_succ, List.set_cons_zero, List.set_cons_succ, Option.bind_some, Option.bind_none, Option.map_some, Option.map_none, List.map_cons, List.map_nil, List.length_cons, List.length_nil, List.replicate, List.cons_append, List.nil_append, List.set_set, if_true, if_false, ite_true, ite_false, reduceIte, Nat.reduceAdd, Nat.reduceSub, Nat.zero_add, Nat.add_zero, Bool.not_true, Bool.not_false, decide_true, decide_false, Bool.true_and, Bool.and_true, Bool.false_and, Bool.and_false, Bool.or_true, Bool.true_or, Bool.or_false, Bool.false_or, eq_self])) (by
          rw [chrs_len]
          exact line_of sgns26 (by decide)) fun d hd => by
          obtain ⟨j, hj, rfl⟩ := chrs_mem hd
          refine ⟨_, rfl, rfl, ?_, fun _ => ⟨false, ?_⟩⟩
          · simp only [swipe, dNotIn_strs, notIn, b_ok, b_bad, b_ex, f_ok, f_bad, f_ex, n_nx, n_rt, n_bk, n_ct, n_ex, n_bad, l_nx, l_rt, l_bk, l_ct, l_ex, l_bad, sNx_e, sSeq_e, sBk_e, sCt_e, sRetN_e, sExp_e, kExp_e, sRet_e, kRet_e, sIf_e, kIf_t, kIf_f, sSet_e, kSet_e, svOf_t, svOf_f, sSetC_e, kCell_e, sAsg_e, kG1_e, oF_s, oF_n, gN_e, gT_e, gsNil_e, gsCons_e, sPar_e, kPar1_e, kPar2_e, sPar3_e, kPr1_e, kPr2_e, kPr3_e, sPut_e, kPut1_e, kPut2_e, isLst_l, kPut_e, kPt_e, kPu_e, plGet_e, pG_o, pG_c, plS_e, pS_o, pS_f, plC_e, pC_o, pC_c, mFr_e, kFz_e, mVar_e, kVar_f, kVar_o, mMov_e, kMov_f, kMov_o, mBw_e, kBw_f, kBw_o, mCon_e, mOf_e, kOf_e, o2_e, m2_e, k2a_e, k2b_e, kDB_s, kDB_n, fl_e, m1_e, k1a_e, get_dv, get_bw, sv_f, sv_o, sv_n, de_cell, de_non, de_bool, de_int, de_str, de_fn, de_rol, de_lst, de_tup, de_dct, de_dtt, de_ins, mCB_e, kCB_e, getAll_n, getAll_c, g2_e, mVals_e, kVl_e, vals_n, vals_c, aNil_e, aCons_e, kC1_e, kC2_e, mT_e, kTb_e, tAnd_e, kAn_t, kAn_f, tOr_e, kOr_t, kOr_f, tNot_e, kNt_e, mTru_e, kTr_e, kO_s, dTru_b, mIf_e, kIfe_t, kIfe_f, mAnd_e, kAnd_t, kAnd_f, mOr_e, kOr2_t, kOr2_f, mNot_e, kNot2_e, kFr_o, mFn_e, kF1_e, kFn_e, mFnK_e, kK1_e, v2_e, kK2_e, mMut_e, kMu_e, mMut0_e, oM_e, kMut_e, pNone_e, pSome_e, kPs_e, mCut_e, kCt1_e, kCt2_e, oC3_e, kCt3_e, fM_e, endF_n, endF_r, dAdd_i, dAdd_s, dAdd_l, dAdd_t, dSub_i, dMul_i, dDiv_i, dMod_i, dPow_i, dLt_i, dLe_i, dGt_i, dGe_i, dLt_s, dEq_i, dEq_b, dEq_s, dNe_i, dNe_b, dNe_s, dInt_i, dAbs_i, dLen_l, dLen_r, dLen_t, dLen_s, dIx_l, dIx_r, dIx_t, dList_l, dList_r, dList_t, dTuple_l, dTuple_t, dDispL_e, dDispT_e, dIsN_n, dNotN_n, dIsN_bool, dNotN_bool, dIsN_int, dNotN_int, dIsN_str, dNotN_str, dIsN_lst, dNotN_lst, dIsN_tup, dNotN_tup, dIsi_non, dIsiT_non, dIsi_bool, dIsiT_bool, dIsi_int, dIsiT_int, dIsi_str, dIsiT_str, dIsi_lst, dIsiT_lst, dIsi_rol, dIsiT_rol, dIsi_tup, dIsiT_tup, mChain_e, kH1_e, kH2_e, kH3_t, kH3_f, kH4_e, mM1_e, kM1_e, kM2_e, kM3_e, mJs_n, mJs_c, kJ_e, dFmt_s, dNeg_i, dDivmod_e, dMax2_e, dMin2_e, dCut_l, dCut_r, dCut_t, dCut_s, dPop_e, fApp_e, List.getElem?_cons_zero, List.getElem?_cons_succ, List.set_cons_zero, List.set_cons_succ, Option.bind_some, Option.bind_none, Option.map_some, Option.map_none, List.map_cons, List.map_nil, List.length_cons, List.length_nil, List.replicate, List.cons_append, List.nil_append, List.set_set, if_true, if_false, ite_true, ite_false, reduceIte, Nat.reduceAdd, Nat.reduceSub, Nat.zero_add, Nat.add_zero, Bool.not_true, Bool.not_false, decide_true, decide_false, Bool.true_and, Bool.and_true, Bool.false_and, Bool.and_false, Bool.or_true, Bool.true_or, Bool.or_false, Bool.false_or, eq_self]
          · simp only [swipe, id, b_ok, b_bad, b_ex, f_ok, f_bad, f_ex, n_nx, n_rt, n_bk, n_ct, n_ex, n_bad, l_nx, l_rt, l_bk, l_ct, l_ex, l_bad, sNx_e, sSeq_e, sBk_e, sCt_e, sRetN_e, sExp_e, kExp_e, sRet_e, kRet_e, sIf_e, kIf_t, kIf_f, sSet_e, kSet_e, svOf_t, svOf_f, sSetC_e, kCell_e, sAsg_e, kG1_e, oF_s, oF_n, gN_e, gT_e, gsNil_e, gsCons_e, sPar_e, kPar1_e, kPar2_e, sPar3_e, kPr1_e, kPr2_e, kPr3_e, sPut_e, kPut1_e, kPut2_e, isLst_l, kPut_e, kPt_e, kPu_e, plGet_e, pG_o, pG_c, plS_e, pS_o, pS_f, plC_e, pC_o, pC_c, mFr_e, kFz_e, mVar_e, kVar_f, kVar_o, mMov_e, kMov_f, kMov_o, mBw_e, kBw_f, kBw_o, mCon_e, mOf_e, kOf_e, o2_e, m2_e, k2a_e, k2b_e, kDB_s, kDB_n, fl_e, m1_e, k1a_e, get_dv, get_bw, sv_f, sv_o, sv_n, de_cell, de_non, de_bool, de_int, de_str, de_fn, de_rol, de_lst, de_tup, de_dct, de_dtt, de_ins, mCB_e, kCB_e, getAll_n, getAll_c, g2_e, mVals_e, kVl_e, vals_n, vals_c, aNil_e, aCons_e, kC1_e, kC2_e, mT_e, kTb_e, tAnd_e, kAn_t, kAn_f, tOr_e, kOr_t, kOr_f, tNot_e, kNt_e, mTru_e, kTr_e, kO_s, dTru_b, mIf_e, kIfe_t, kIfe_f, mAnd_e, kAnd_t, kAnd_f, mOr_e, kOr2_t, kOr2_f, mNot_e, kNot2_e, kFr_o, mFn_e, kF1_e, kFn_e, mFnK_e, kK1_e, v2_e, kK2_e, mMut_e, kMu_e, mMut0_e, oM_e, kMut_e, pNone_e, pSome_e, kPs_e, mCut_e, kCt1_e, kCt2_e, oC3_e, kCt3_e, fM_e, endF_n, endF_r, dAdd_i, dAdd_s, dAdd_l, dAdd_t, dSub_i, dMul_i, dDiv_i, dMod_i, dPow_i, dLt_i, dLe_i, dGt_i, dGe_i, dLt_s, dEq_i, dEq_b, dEq_s, dNe_i, dNe_b, dNe_s, dInt_i, dAbs_i, dLen_l, dLen_r, dLen_t, dLen_s, dIx_l, dIx_r, dIx_t, dList_l, dList_r, dList_t, dTuple_l, dTuple_t, dDispL_e, dDispT_e, dIsN_n, dNotN_n, dIsN_bool, dNotN_bool, dIsN_int, dNotN_int, dIsN_str, dNotN_str, dIsN_lst, dNotN_lst, dIsN_tup, dNotN_tup, dIsi_non, dIsiT_non, dIsi_bool, dIsiT_bool, dIsi_int, dIsiT_int, dIsi_str, dIsiT_str, dIsi_lst, dIsiT_lst, dIsi_rol, dIsiT_rol, dIsi_tup, dIsiT_tup, mChain_e, kH1_e, kH2_e, kH3_t, kH3_f, kH4_e, mM1_e, kM1_e, kM2_e, kM3_e, mJs_n, mJs_c, kJ_e, dFmt_s, dNeg_i, dDivmod_e, dMax2_e, dMin2_e, dCut_l, dCut_r, dCut_t, dCut_s, dPop_e, fApp_e, List.getElem?_cons_zero, List.getElem?_cons_succ, List.set_cons_zero, List.set_cons_succ, Option.bind_some, Option.bind_none, Option.map_some, Option.map_none, List.map_cons, List.map_nil, List.length_cons, List.length_nil, List.replicate, List.cons_append, List.nil_append, List.set_set, if_true, if_false, ite_true, ite_false, reduceIte, Nat.reduceAdd, Nat.reduceSub, Nat.zero_add, Nat.add_zero, Bool.not_true, Bool.not_false, decide_true, decide_false, Bool.true_and, Bool.and_true, Bool.false_and, Bool.and_false, Bool.or_true, Bool.true_or, Bool.or_false, Bool.false_or, eq_self]
      rw [this, h1, List.map_id]
      rfl
    refine ⟨_, c, ?_, fin ⟨#[k]⟩ ((sgns26.chr h2).mono (by decide))⟩
    simp only [dIn_strs, e, z2, lc, ix0, List.map_append, b_ok, b_bad, b_ex, f_ok, f_bad, f_ex, n_nx, n_rt, n_bk, n_ct, n_ex, n_bad, l_nx, l_rt, l_bk, l_ct, l_ex, l_bad, sNx_e, sSeq_e, sBk_e, sCt_e, sRetN_e, sExp_e, kExp_e, sRet_e, kRet_e, sIf_e, kIf_t, kIf_f, sSet_e, kSet_e, svOf_t, svOf_f, sSetC_e, kCell_e, sAsg_e, kG1_e, oF_s, oF_n, gN_e, gT_e, gsNil_e, gsCons_e, sPar_e, kPar1_e, kPar2_e, sPar3_e, kPr1_e, kPr2_e, kPr3_e, sPut_e, kPut1_e, kPut2_e, isLst_l, kPut_e, kPt_e, kPu_e, plGet_e, pG_o, pG_c, plS_e, pS_o, pS_f, plC_e, pC_o, pC_c, mFr_e, kFz_e, mVar_e, kVar_f, kVar_o, mMov_e, kMov_f, kMov_o, mBw_e, kBw_f, kBw_o, mCon_e, mOf_e, kOf_e, o2_e, m2_e, k2a_e, k2b_e, kDB_s, kDB_n, fl_e, m1_e, k1a_e, get_dv, get_bw, sv_f, sv_o, sv_n, de_cell, de_non, de_bool, de_int, de_str, de_fn, de_rol, de_lst, de_tup, de_dct, de_dtt, de_ins, mCB_e, kCB_e, getAll_n, getAll_c, g2_e, mVals_e, kVl_e, vals_n, vals_c, aNil_e, aCons_e, kC1_e, kC2_e, mT_e, kTb_e, tAnd_e, kAn_t, kAn_f, tOr_e, kOr_t, kOr_f, tNot_e, kNt_e, mTru_e, kTr_e, kO_s, dTru_b, mIf_e, kIfe_t, kIfe_f, mAnd_e, kAnd_t, kAnd_f, mOr_e, kOr2_t, kOr2_f, mNot_e, kNot2_e, kFr_o, mFn_e, kF1_e, kFn_e, mFnK_e, kK1_e, v2_e, kK2_e, mMut_e, kMu_e, mMut0_e, oM_e, kMut_e, pNone_e, pSome_e, kPs_e, mCut_e, kCt1_e, kCt2_e, oC3_e, kCt3_e, fM_e, endF_n, endF_r, dAdd_i, dAdd_s, dAdd_l, dAdd_t, dSub_i, dMul_i, dDiv_i, dMod_i, dPow_i, dLt_i, dLe_i, dGt_i, dGe_i, dLt_s, dEq_i, dEq_b, dEq_s, dNe_i, dNe_b, dNe_s, dInt_i, dAbs_i, dLen_l, dLen_r, dLen_t, dLen_s, dIx_l, dIx_r, dIx_t, dList_l, dList_r, dList_t, dTuple_l, dTuple_t, dDispL_e, dDispT_e, dIsN_n, dNotN_n, dIsN_bool, dNotN_bool, dIsN_int, dNotN_int, dIsN_str, dNotN_str, dIsN_lst, dNotN_lst, dIsN_tup, dNotN_tup, dIsi_non, dIsiT_non, dIsi_bool, dIsiT_bool, dIsi_int, dIsiT_int, dIsi_str, dIsiT_str, dIsi_lst, dIsiT_lst, dIsi_rol, dIsiT_rol, dIsi_tup, dIsiT_tup, mChain_e, kH1_e, kH2_e, kH3_t, kH3_f, kH4_e, mM1_e, kM1_e, kM2_e, kM3_e, mJs_n, mJs_c, kJ_e, dFmt_s, dNeg_i, dDivmod_e, dMax2_e, dMin2_e, dCut_l, dCut_r, dCut_t, dCut_s, dPop_e, fApp_e, List.getElem?_cons_zero, List.getElem?_cons_succ, List.set_cons_zero, List.set_cons_succ, Option.bind_some, Option.bind_none, Option.map_some, Option.map_none, List.map_cons, List.map_nil, List.length_cons, List.length_nil, List.replicate, List.cons_append, List.nil_append, List.set_set, if_true, if_false, ite_true, ite_false, reduceIte, Nat.reduceAdd, Nat.reduceSub, Nat.zero_add, Nat.add_zero, Bool.not_true, Bool.not_false, decide_true, decide_false, Bool.true_and, Bool.and_true, Bool.false_and, Bool.and_false, Bool.or_true, Bool.true_or, Bool.or_false, Bool.false_or, eq_self]
theorem names_body {many : Int} {signs : Str} {i : Nat} {s : SL} {c : CL} {d : EV.D} (h : NmSt many signs i s c) (hi : i ≤ 10) (hs : 0 < signs.length) (hs2 : AscN 26 signs) :
    ∃ s' c', namesBody (s.set 5 (.fz d)) c = .nx s' c' ∧ NmSt many signs (i + 1) s' c' := by
  obtain ⟨x3, x5, x6, ws, rfl, h3, B, hl, hw⟩ := h
  obtain ⟨q, c1, h1, b1, l1⟩ := draw_bg B (sides := 6) (by decide) (by decide)
  by_cases hq : (q : Int) = 5
  · have e1 : ((q : Int) = 5) = True := eq_true hq
    obtain ⟨x, c2, h2, b2, m2⟩ := of_l (xs := wordsL.map .str) b1 (by decide) (by decide)
    obtain ⟨v, m3, rfl⟩ := List.mem_map.mp m2
    obtain ⟨s', c', t1, t2⟩ := names_tail (many := many) (signs := signs) (x3 := .fz (.lst (wordsL.map .str))) (x5 := .fz d) (w := v) (.inr rfl) b2 hl hi hw ((words_asc v m3).mono (by decide))
    refine ⟨s', c', ?_, t2⟩
    rw [← t1]
    unfold namesBody
    rcases h3 with rfl | rfl
    · simp only [sSeq_e, sIf_e, h1, e1, h2, mT_e, m2_e, mOf_e, mFn_e, aCons_e, aNil_e, mVar_e, mCon_e, sSet_e, List.set_cons_zero, List.set_cons_succ, List.getElem?_cons_zero, List.getElem?_cons_succ, b_ok, f_ok, kOf_e, kC1_e, kC2_e, kF1_e, kFn_e, kFr_o, k2a_e, k2b_e, kDB_s, o2_e, get_dv, de_int, dEq_i, fl_e, kTb_e, kVar_f, kVar_o, vals_c, vals_n, Option.map_some, List.length_cons, List.length_nil, Nat.zero_add, Nat.reduceAdd, if_true, decide_true, kIf_t, kSet_e, svOf_f, n_nx]
    · simp only [sSeq_e, sIf_e, h1, e1, h2, mT_e, m2_e, mOf_e, mFn_e, aCons_e, aNil_e, mVar_e, mCon_e, sSet_e, List.set_cons_zero, List.set_cons_succ, List.getElem?_cons_zero, List.getElem?_cons_succ, b_ok, f_ok, kOf_e, kC1_e, kC2_e, kF1_e, kFn_e, kFr_o, k2a_e, k2b_e, kDB_s, o2_e, get_dv, de_int, dEq_i, fl_e, kTb_e, kVar_f, kVar_o, vals_c, vals_n, Option.map_some, List.length_cons, List.length_nil, Nat.zero_add, Nat.reduceAdd, if_true, decide_true, kIf_t, kSet_e, svOf_f, n_nx]
  · have e1 : ((q : Int) = 5) = False := eq_false hq
    obtain ⟨n, c2, h2, b2, l2⟩ := draw_bg b1 (sides := 6) (by decide) (by decide)
    have hn : n < 6 := by omega
    have lc : ∃ (ys : List Str) (c' : CL), mLc (iRng1 (aCons (mOf (m2 dAdd (mOf (mCon (.int 1))) (mOf (mFn 2 f__law_draw (aCons (mOf (mVar 0)) (aCons (mOf (mCon (.int 6))) aNil)))))) aNil)) (gN 7) tYesM (mFn 2 f__law_of (aCons (mOf (mVar 0)) (aCons (mOf (mVar 2)) aNil))) [7] [.fz (.cell 0), .fz (.int many), .fz (.str signs), x3, .ow (.lst (ws.map .str)), .fz d, x6, .no, .no] c1
        = .ok (.lst (ys.map .str), true) [.fz (.cell 0), .fz (.int many), .fz (.str signs), x3, .ow (.lst (ws.map .str)), .fz d, x6, .no, .no] c' ∧ Bg c' ∧ ys.length = n + 1 ∧ ∀ y ∈ ys, AscN 1 y := by
      have hmi : iRng1 (aCons (mOf (m2 dAdd (mOf (mCon (.int 1))) (mOf (mFn 2 f__law_draw (aCons (mOf (mVar 0)) (aCons (mOf (mCon (.int 6))) aNil)))))) aNil) [.fz (.cell 0), .fz (.int many), .fz (.str signs), x3, .ow (.lst (ws.map .str)), .fz d, x6, .no, .no] c1 = .ok (n + 1 + 1, lkL (rngD 0 (n + 1))) [.fz (.cell 0), .fz (.int many), .fz (.str signs), x3, .ow (.lst (ws.map .str)), .fz d, x6, .no, .no] c2 := by
        have := iRng1_e (m := aCons (mOf (m2 dAdd (mOf (mCon (.int 1))) (mOf (mFn 2 f__law_draw (aCons (mOf (mVar 0)) (aCons (mOf (mCon (.int 6))) aNil)))))) aNil) (s := [.fz (.cell 0), .fz (.int many), .fz (.str signs), x3, .ow (.lst (ws.map .str)), .fz d, x6, .no, .no]) (s1 := [.fz (.cell 0), .fz (.int many), .fz (.str signs), x3, .ow (.lst (ws.map .str)), .fz d, x6, .no, .no]) (c := c1) (c1 := c2) (ods := [.dv (.int (1 + (n : Int)))]) (j := 1 + (n : Int)) (by simp only [h2, b_ok, b_bad, b_ex, f_ok, f_bad, f_ex, n_nx, n_rt, n_bk, n_ct, n_ex, n_bad, l_nx, l_rt, l_bk, l_ct, l_ex, l_bad, sNx_e, sSeq_e, sBk_e, sCt_e, sRetN_e, sExp_e, kExp_e, sRet_e, kRet_e, sIf_e, kIf_t, kIf_f, sSet_e, kSet_e, svOf_t, svOf_f, sSetC_e, kCell_e, sAsg_e, kG1_e, oF_s, oF_n, gN_e, gT_e, gsNil_e, gsCons_e, sPar_e, kPar1_e, kPar2_e, sPar3_e, kPr1_e, kPr2_e, kPr3_e, sPut_e, kPut1_e, kPut2_e, isLst_l, kPut_e, kPt_e, kPu_e, plGet_e, pG_o, pG_c, plS_e, pS_o, pS_f, plC_e, pC_o, pC_c, mFr_e, kFz_e, mVar_e, kVar_f, kVar_o, mMov_e, kMov_f, kMov_o, mBw_e, kBw_f, kBw_o, mCon_e, mOf_e, kOf_e, o2_e, m2_e, k2a_e, k2b_e, kDB_s, kDB_n, fl_e, m1_e, k1a_e, get_dv, get_bw, sv_f, sv_o, sv_n, de_cell, de_non, de_bool, de_int, de_str, de_fn, de_rol, de_lst, de_tup, de_dct, de_dtt, de_ins, mCB_e, kCB_e, getAll_n, getAll_c, g2_e, mVals_e, kVl_e, vals_n, vals_c, aNil_e, aCons_e, kC1_e, kC2_e, mT_e, kTb_e, tAnd_e, kAn_t, kAn_f, tOr_e, kOr_t, kOr_f, tNot_e, kNt_e, mTru_e, kTr_e, kO_s, dTru_b, mIf_e, kIfe_t, kIfe_f, mAnd_e, kAnd_t, kAnd_f, mOr_e, kOr2_t, kOr2_f, mNot_e, kNot2_e, kFr_o, mFn_e, kF1_e, kFn_e, mFnK_e, kK1_e, v2_e, kK2_e, mMut_e, kMu_e, mMut0_e, oM_e, kMut_e, pNone_e, pSome_e, kPs_e, mCut_e, kCt1_e, kCt2_e, oC3_e, kCt3_e, fM_e, endF_n, endF_r, dAdd_i, dAdd_s, dAdd_l, dAdd_t, dSub_i, dMul_i, dDiv_i, dMod_i, dPow_i, dLt_i, dLe_i, dGt_i, dGe_i, dLt_s, dEq_i, dEq_b, dEq_s, dNe_i, dNe_b, dNe_s, dInt_i, dAbs_i, dLen_l, dLen_r, dLen_t, dLen_s, dIx_l, dIx_r, dIx_t, dList_l, dList_r, dList_t, dTuple_l, dTuple_t, dDispL_e, dDispT_e, dIsN_n, dNotN_n, dIsN_bool, dNotN_bool, dIsN_int, dNotN_int, dIsN_str, dNotN_str, dIsN_lst, dNotN_lst, dIsN_tup, dNotN_tup, dIsi_non, dIsiT_non, dIsi_bool, dIsiT_bool, dIsi_int, dIsiT_int, dIsi_str, dIsiT_str, dIsi_lst, dIsiT_lst, dIsi_rol, dIsiT_rol, dIsi_tup, dIsiT_tup, mChain_e, kH1_e, kH2_e, kH3_t, kH3_f, kH4_e, mM1_e, kM1_e, kM2_e, kM3_e, mJs_n, mJs_c, kJ_e, dFmt_s, dNeg_i, dDivmod_e, dMax2_e, dMin2_e, dCut_l, dCut_r, dCut_t, dCut_s, dPop_e, fApp_e, List.getElem?_cons_zero, List.getElem?_cons_succ, List.set_cons_zero, List.set_cons_succ, Option.bind_some, Option.bind_none, Option.map_some, Option.map_none, List.map_cons, List.map_nil, List.length_cons, List.length_nil, List.replicate, List.cons_append, List.nil_append, List.set_set, if_true, if_false, ite_true, ite_false, reduceIte, Nat.reduceAdd, Nat.reduceSub, Nat.zero_add, Nat.add_zero, Bool.not_true, Bool.not_false, decide_true, decide_false, Bool.true_and, Bool.and_true, Bool.false_and, Bool.and_false, Bool.or_true, Bool.true_or, Bool.or_false, Bool.false_or, eq_self]) (by simp only [b_ok, b_bad, b_ex, f_ok, f_bad, f_ex, n_nx, n_rt, n_bk, n_ct, n_ex, n_bad, l_nx, l_rt, l_bk, l_ct, l_ex, l_bad, sNx_e, sSeq_e, sBk_e, sCt_e, sRetN_e, sExp_e, kExp_e, sRet_e, kRet_e, sIf_e, kIf_t, kIf_f, sSet_e, kSet_e, svOf_t, svOf_f, sSetC_e, kCell_e, sAsg_e, kG1_e, oF_s, oF_n, gN_e, gT_e, gsNil_e, gsCons_e, sPar_e, kPar1_e, kPar2_e, sPar3_e, kPr1_e, kPr2_e, kPr3_e, sPut_e, kPut1_e, kPut2_e, isLst_l, kPut_e, kPt_e, kPu_e, plGet_e, pG_o, pG_c, plS_e, pS_o, pS_f, plC_e, pC_o, pC_c, mFr_e, kFz_e, mVar_e, kVar_f, kVar_o, mMov_e, kMov_f, kMov_o, mBw_e, kBw_f, kBw_o, mCon_e, mOf_e, kOf_e, o2_e, m2_e, k2a_e, k2b_e, kDB_s, kDB_n, fl_e, m1_e, k1a_e, get_dv, get_bw, sv_f, sv_o, sv_n, de_cell, de_non, de_bool, de_int, de_str, de_fn, de_rol, de_lst, de_tup, de_dct, de_dtt, de_ins, mCB_e, kCB_e, getAll_n, getAll_c, g2_e, mVals_e, kVl_e, vals_n, vals_c, aNil_e, aCons_e, kC1_e, kC2_e, mT_e, kTb_e, tAnd_e, kAn_t, kAn_f, tOr_e, kOr_t, kOr_f, tNot_e, kNt_e, mTru_e, kTr_e, kO_s, dTru_b, mIf_e, kIfe_t, kIfe_f, mAnd_e, kAnd_t, kAnd_f, mOr_e, kOr2_t, kOr2_f, mNot_e, kNot2_e, kFr_o, mFn_e, kF1_e, kFn_e, mFnK_e, kK1_e, v2_e, kK2_e, mMut_e, kMu_e, mMut0_e, oM_e, kMut_e, pNone_e, pSome_e, kPs_e, mCut_e, kCt1_e, kCt2_e, oC3_e, kCt3_e, fM_e, endF_n, endF_r, dAdd_i, dAdd_s, dAdd_l, dAdd_t, dSub_i, dMul_i, dDiv_i, dMod_i, dPow_i, dLt_i, dLe_i, dGt_i, dGe_i, dLt_s, dEq_i, dEq_b, dEq_s, dNe_i, dNe_b, dNe_s, dInt_i, dAbs_i, dLen_l, dLen_r, dLen_t, dLen_s, dIx_l, dIx_r, dIx_t, dList_l, dList_r, dList_t, dTuple_l, dTuple_t, dDispL_e, dDispT_e, dIsN_n, dNotN_n, dIsN_bool, dNotN_bool, dIsN_int, dNotN_int, dIsN_str, dNotN_str, dIsN_lst, dNotN_lst, dIsN_tup, dNotN_tup, dIsi_non, dIsiT_non, dIsi_bool, dIsiT_bool, dIsi_int, dIsiT_int, dIsi_str, dIsiT_str, dIsi_lst, dIsiT_lst, dIsi_rol, dIsiT_rol, dIsi_tup, dIsiT_tup, mChain_e, kH1_e, kH2_e, kH3_t, kH3_f, kH4_e, mM1_e, kM1_e, kM2_e, kM3_e, mJs_n, mJs_c, kJ_e, dFmt_s, dNeg_i, dDivmod_e, dMax2_e, dMin2_e, dCut_l, dCut_r, dCut_t, dCut_s, dPop_e, fApp_e, List.getElem?_cons_zero, List.getElem?_cons_succ, List.set_cons_zero, List.set_cons_succ, Option.bind_some, Option.bind_none, Option.map_some, Option.map_none, List.map_cons, List.map_nil, List.length_cons, List.length_nil, List.replicate, List.cons_append, List.nil_append, List.set_set, if_true, if_false, ite_true, ite_false, reduceIte, Nat.reduceAdd, Nat.reduceSub, Nat.zero_add, Nat.add_zero, Bool.not_true, Bool.not_false, decide_true, decide_false, Bool.true_and, Bool.and_true, Bool.false_and, Bool.and_false, Bool.or_true, Bool.true_or, Bool.or_false, Bool.false_or, eq_self]) (by omega)
        rw [this, rngD_len]
        have : (1 + (n : Int)).toNat = n + 1 := by omega
        rw [this]
      have eq1 : mLc (iRng1 (aCons (mOf (m2 dAdd (mOf (mCon (.int 1))) (mOf (mFn 2 f__law_draw (aCons (mOf (mVar 0)) (aCons (mOf (mCon (.int 6))) aNil)))))) aNil)) (gN 7) tYesM (mFn 2 f__law_of (aCons (mOf (mVar 0)) (aCons (mOf (mVar 2)) aNil))) [7] [.fz (.cell 0), .fz (.int many), .fz (.str signs), x3, .ow (.lst (ws.map .str)), .fz d, x6, .no, .no] c1
          = mLc (fun s c => .ok (n + 1 + 1, lkL (rngD 0 (n + 1))) s c) (gN 7) tYesM (mFn 2 f__law_of (aCons (mOf (mVar 0)) (aCons (mOf (mVar 2)) aNil))) [7] [.fz (.cell 0), .fz (.int many), .fz (.str signs), x3, .ow (.lst (ws.map .str)), .fz d, x6, .no, .no] c2 := by
        unfold mLc
        rw [hmi]
      rw [eq1]
      exact drawn_signs (n := n + 1) b2 rfl (by omega) (fun d => by simp only [swipe, b_ok, b_bad, b_ex, f_ok, f_bad, f_ex, n_nx, n_rt, n_bk, n_ct, n_ex, n_bad, l_nx, l_rt, l_bk, l_ct, l_ex, l_bad, sNx_e, sSeq_e, sBk_e, sCt_e, sRetN_e, sExp_e, kExp_e, sRet_e, kRet_e, sIf_e, kIf_t, kIf_f, sSet_e, kSet_e, svOf_t, svOf_f, sSetC_e, kCell_e, sAsg_e, kG1_e, oF_s, oF_n, gN_e, gT_e, gsNil_e, gsCons_e, sPar_e, kPar1_e, kPar2_e, sPar3_e, kPr1_e, kPr2_e, kPr3_e, sPut_e, kPut1_e, kPut2_e, isLst_l, kPut_e, kPt_e, kPu_e, plGet_e, pG_o, pG_c, plS_e, pS_o, pS_f, plC_e, pC_o, pC_c, mFr_e, kFz_e, mVar_e, kVar_f, kVar_o, mMov_e, kMov_f, kMov_o, mBw_e, kBw_f, kBw_o, mCon_e, mOf_e, kOf_e, o2_e, m2_e, k2a_e, k2b_e, kDB_s, kDB_n, fl_e, m1_e, k1a_e, get_dv, get_bw, sv_f, sv_o, sv_n, de_cell, de_non, de_bool, de_int, de_str, de_fn, de_rol, de_lst, de_tup, de_dct, de_dtt, de_ins, mCB_e, kCB_e, getAll_n, getAll_c, g2_e, mVals_e, kVl_e, vals_n, vals_c, aNil_e, aCons_e, kC1_e, kC2_e, mT_e, kTb_e, tAnd_e, kAn_t, kAn_f, tOr_e, kOr_t, kOr_f, tNot_e, kNt_e, mTru_e, kTr_e, kO_s, dTru_b, mIf_e, kIfe_t, kIfe_f, mAnd_e, kAnd_t, kAnd_f, mOr_e, kOr2_t, kOr2_f, mNot_e, kNot2_e, kFr_o, mFn_e, kF1_e, kFn_e, mFnK_e, kK1_e, v2_e, kK2_e, mMut_e, kMu_e, mMut0_e, oM_e, kMut_e, pNone_e, pSome_e, kPs_e, mCut_e, kCt1_e, kCt2_e, oC3_e, kCt3_e, fM_e, endF_n, endF_r, dAdd_i, dAdd_s, dAdd_l, dAdd_t, dSub_i, dMul_i, dDiv_i, dMod_i, dPow_i, dLt_i, dLe_i, dGt_i, dGe_i, dLt_s, dEq_i, dEq_b, dEq_s, dNe_i, dNe_b, dNe_s, dInt_i, dAbs_i, dLen_l, dLen_r, dLen_t, dLen_s, dIx_l, dIx_r, dIx_t, dList_l, dList_r, dList_t, dTuple_l, dTuple_t, dDispL_e, dDispT_e, dIsN_n, dNotN_n, dIsN_bool, dNotN_bool, dIsN_int, dNotN_int, dIsN_str, dNotN_str, dIsN_lst, dNotN_lst, dIsN_tup, dNotN_tup, dIsi_non, dIsiT_non, dIsi_bool, dIsiT_bool, dIsi_int, dIsiT_int, dIsi_str, dIsiT_str, dIsi_lst, dIsiT_lst, dIsi_rol, dIsiT_rol, dIsi_tup, dIsiT_tup, mChain_e, kH1_e, kH2_e, kH3_t, kH3_f, kH4_e, mM1_e, kM1_e, kM2_e, kM3_e, mJs_n, mJs_c, kJ_e, dFmt_s, dNeg_i, dDivmod_e, dMax2_e, dMin2_e, dCut_l, dCut_r, dCut_t, dCut_s, dPop_e, fApp_e, List.getElem?_cons_zero, List.getElem?_cons_succ, List.set_cons_zero, List.set_cons_succ, Option.bind_some, Option.bind_none, Option.map_some, Option.map_none, List.map_cons, List.map_nil, List.length_cons, List.length_nil, List.replicate, List.cons_append, List.nil_append, List.set_set, if_true, if_false, ite_true, ite_false, reduceIte, Nat.reduceAdd, Nat.reduceSub, Nat.zero_add, Nat.add_zero, Bool.not_true, Bool.not_false, decide_true, decide_false, Bool.true_and, Bool.and_true, Bool.false_and, Bool.and_false, Bool.or_true, Bool.true_or, Bool.or_false, Bool.false_or, eq_self]) (by simp only [swipe, srest, b_ok, b_bad, b_ex, f_ok, f_bad, f_ex, n_nx, n_rt, n_bk, n_ct, n_ex, n_bad, l_nx, l_rt, l_bk, l_ct, l_ex, l_bad, sNx_e, sSeq_e, sBk_e, sCt_e, sRetN_e, sExp_e, kExp_e, sRet_e, kRet_e, sIf_e, kIf_t, kIf_f, sSet_e, kSet_e, svOf_t, svOf_f, sSetC_e, kCell_e, sAsg_e, kG1_e, oF_s, oF_n, gN_e, gT_e, gsNil_e, gsCons_e, sPar_e, kPar1_e, kPar2_e, sPar3_e, kPr1_e, kPr2_e, kPr3_e, sPut_e, kPut1_e, kPut2_e, isLst_l, kPut_e, kPt_e, kPu_e, plGet_e, pG_o, pG_c, plS_e, pS_o, pS_f, plC_e, pC_o, pC_c, mFr_e, kFz_e, mVar_e, kVar_f, kVar_o, mMov_e, kMov_f, kMov_o, mBw_e, kBw_f, kBw_o, mCon_e, mOf_e, kOf_e, o2_e, m2_e, k2a_e, k2b_e, kDB_s, kDB_n, fl_e, m1_e, k1a_e, get_dv, get_bw, sv_f, sv_o, sv_n, de_cell, de_non, de_bool, de_int, de_str, de_fn, de_rol, de_lst, de_tup, de_dct, de_dtt, de_ins, mCB_e, kCB_e, getAll_n, getAll_c, g2_e, mVals_e, kVl_e, vals_n, vals_c, aNil_e, aCons_e, kC1_e, kC2_e, mT_e, kTb_e, tAnd_e, kAn_t, kAn_f, tOr_e, kOr_t, kOr_f, tNot_e, kNt_e, mTru_e, kTr_e, kO_s, dTru_b, mIf_e, kIfe_t, kIfe_f, mAnd_e, kAnd_t, kAnd_f, mOr_e, kOr2_t, kOr2_f, mNot_e, kNot2_e, kFr_o, mFn_e, kF1_e, kFn_e, mFnK_e, kK1_e, v2_e, kK2_e, mMut_e, kMu_e, mMut0_e, oM_e, kMut_e, pNone_e, pSome_e, kPs_e, mCut_e, kCt1_e, kCt2_e, oC3_e, kCt3_e, fM_e, endF_n, endF_r, dAdd_i, dAdd_s, dAdd_l, dAdd_t, dSub_i, dMul_i, dDiv_i, dMod_i, dPow_i, dLt_i, dLe_i, dGt_i, dGe_i, dLt_s, dEq_i, dEq_b, dEq_s, dNe_i, dNe_b, dNe_s, dInt_i, dAbs_i, dLen_l, dLen_r, dLen_t, dLen_s, dIx_l, dIx_r, dIx_t, dList_l, dList_r, dList_t, dTuple_l, dTuple_t, dDispL_e, dDispT_e, dIsN_n, dNotN_n, dIsN_bool, dNotN_bool, dIsN_int, dNotN_int, dIsN_str, dNotN_str, dIsN_lst, dNotN_lst, dIsN_tup, dNotN_tup, dIsi_non, dIsiT_non, dIsi_bool, dIsiT_bool, dIsi_int, dIsiT_int, dIsi_str, dIsiT_str, dIsi_lst, dIsiT_lst, dIsi_rol, dIsiT_rol, dIsi_tup, dIsiT_tup, mChain_e, kH1_e, kH2_e, kH3_t, kH3_f, kH4_e, mM1_e, kM1_e, kM2_e, kM3_e, mJs_n, mJs_c, kJ_e, dFmt_s, dNeg_i, dDivmod_e, dMax2_e, dMin2_e, dCut_l, dCut_r, dCut_t, dCut_s, dPop_e, fApp_e, List.getElem?_cons_zero, List.getElem?_cons_succ, List.set_cons_zero, List.set_cons_succ, Option.bind_some, Option.bind_none, Option.map_some, Option.map_none, List.map_cons, List.map_nil, List.length_cons, List.length_nil, List.replicate, List.cons_append, List.nil_append, List.set_set, if_true, if_false, ite_true, ite_false, reduceIte, Nat.reduceAdd, Nat.reduceSub, Nat.zero_add, Nat.add_zero, Bool.not_true, Bool.not_false, decide_true, decide_false, Bool.true_and, Bool.and_true, Bool.false_and, Bool.and_false, Bool.or_true, Bool.true_or, Bool.or_false, Bool.false_or, eq_self]) fun d c B => by
        obtain ⟨k, c', g1, g2, g3⟩ := of_s (x := signs) B hs (line_of hs2 (by decide))
        refine ⟨⟨#[k]⟩, c', ?_, g2, hs2.chr g3⟩
        simp only [swipe, g1, b_ok, b_bad, b_ex, f_ok, f_bad, f_ex, n_nx, n_rt, n_bk, n_ct, n_ex, n_bad, l_nx, l_rt, l_bk, l_ct, l_ex, l_bad, sNx_e, sSeq_e, sBk_e, sCt_e, sRetN_e, sExp_e, kExp_e, sRet_e, kRet_e, sIf_e, kIf_t, kIf_f, sSet_e, kSet_e, svOf_t, svOf_f, sSetC_e, kCell_e, sAsg_e, kG1_e, oF_s, oF_n, gN_e, gT_e, gsNil_e, gsCons_e, sPar_e, kPar1_e, kPar2_e, sPar3_e, kPr1_e, kPr2_e, kPr3_e, sPut_e, kPut1_e, kPut2_e, isLst_l, kPut_e, kPt_e, kPu_e, plGet_e, pG_o, pG_c, plS_e, pS_o, pS_f, plC_e, pC_o, pC_c, mFr_e, kFz_e, mVar_e, kVar_f, kVar_o, mMov_e, kMov_f, kMov_o, mBw_e, kBw_f, kBw_o, mCon_e, mOf_e, kOf_e, o2_e, m2_e, k2a_e, k2b_e, kDB_s, kDB_n, fl_e, m1_e, k1a_e, get_dv, get_bw, sv_f, sv_o, sv_n, de_cell, de_non, de_bool, de_int, de_str, de_fn, de_rol, de_lst, de_tup, de_dct, de_dtt, de_ins, mCB_e, kCB_e, getAll_n, getAll_c, g2_e, mVals_e, kVl_e, vals_n, vals_c, aNil_e, aCons_e, kC1_e, kC2_e, mT_e, kTb_e, tAnd_e, kAn_t, kAn_f, tOr_e, kOr_t, kOr_f, tNot_e, kNt_e, mTru_e, kTr_e, kO_s, dTru_b, mIf_e, kIfe_t, kIfe_f, mAnd_e, kAnd_t, kAnd_f, mOr_e, kOr2_t, kOr2_f, mNot_e, kNot2_e, kFr_o, mFn_e, kF1_e, kFn_e, mFnK_e, kK1_e, v2_e, kK2_e, mMut_e, kMu_e, mMut0_e, oM_e, kMut_e, pNone_e, pSome_e, kPs_e, mCut_e, kCt1_e, kCt2_e, oC3_e, kCt3_e, fM_e, endF_n, endF_r, dAdd_i, dAdd_s, dAdd_l, dAdd_t, dSub_i, dMul_i, dDiv_i, dMod_i, dPow_i, dLt_i, dLe_i, dGt_i, dGe_i, dLt_s, dEq_i, dEq_b, dEq_s, dNe_i, dNe_b, dNe_s, dInt_i, dAbs_i, dLen_l, dLen_r, dLen_t, dLen_s, dIx_l, dIx_r, dIx_t, dList_l, dList_r, dList_t, dTuple_l, dTuple_t, dDispL_e, dDispT_e, dIsN_n, dNotN_n, dIsN_bool, dNotN_bool, dIsN_int, dNotN_int, dIsN_str, dNotN_str, dIsN_lst, dNotN_lst, dIsN_tup, dNotN_tup, dIsi_non, dIsiT_non, dIsi_bool, dIsiT_bool, dIsi_int, dIsiT_int, dIsi_str, dIsiT_str, dIsi_lst, dIsiT_lst, dIsi_rol, dIsiT_rol, dIsi_tup, dIsiT_tup, mChain_e, kH1_e, kH2_e, kH3_t, kH3_f, kH4_e, mM1_e, kM1_e, kM2_e, kM3_e, mJs_n, mJs_c, kJ_e, dFmt_s, dNeg_i, dDivmod_e, dMax2_e, dMin2_e, dCut_l, dCut_r, dCut_t, dCut_s, dPop_e, fApp_e, List.getElem?_cons_zero, List.getElem?_cons_succ, List.set_cons_zero, List.set_cons_succ, Option.bind_some, Option.bind_none, Option.map_some, Option.map_none, List.map_cons, List.map_nil, List.length_cons, List.length_nil, List.replicate, List.cons_append, List.nil_append, List.set_set, if_true, if_false, ite_true, ite_false, reduceIte, Nat.reduceAdd, Nat.reduceSub, Nat.zero_add, Nat.add_zero, Bool.not_true, Bool.not_false, decide_true, decide_false, Bool.true_and, Bool.and_true, Bool.false_and, Bool.and_false, Bool.or_true, Bool.true_or, Bool.or_false, Bool.false_or, eq_self]
    obtain ⟨ys, c3, h4, b3, l3, a3⟩ := lc
    obtain ⟨w, h5, a5⟩ := joined a3 (by omega)
    obtain ⟨s', c', t1, t2⟩ := names_tail (many := many) (signs := signs) (x3 := x3) (x5 := .fz d) (w := w) h3 b3 hl hi hw (a5.mono (by omega))
    refine ⟨s', c', ?_, t2⟩
    rw [← t1]
    unfold namesBody
    simp only [sSeq_e, sIf_e, h1, e1, h4, h5, mT_e, m2_e, mOf_e, mFn_e, aCons_e, aNil_e, mVar_e, mCon_e, sSet_e, mM1_e, kM1_e, kM2_e, kM3_e, List.set_cons_zero, List.set_cons_succ, List.getElem?_cons_zero, List.getElem?_cons_succ, b_ok, f_ok, kOf_e, kC1_e, kC2_e, kF1_e, kFn_e, kFr_o, k2a_e, k2b_e, kDB_s, o2_e, get_dv, de_int, de_str, de_lst, dEq_i, fl_e, kTb_e, kVar_f, kVar_o, vals_c, vals_n, Option.map_some, List.length_cons, List.length_nil, Nat.zero_add, Nat.reduceAdd, if_true, decide_false, kIf_f, kSet_e, svOf_f, n_nx]
theorem names_ok {c : CL} {many : Int} (B : Bg c) (hm : 0 ≤ many ∧ many ≤ 8) : ∃ (ws : List Str) (c' : CL), f__law_names [.cell 0, .int many] c = .ok (.lst (ws.map .str), true) [] c' ∧ Bg c' ∧ ws.length ≤ 8 ∧ ∀ w ∈ ws, AscN 10 w := by
  obtain ⟨x, c1, h1, b1, m1⟩ := of_l (xs := [.str "abcdefghijklmnopqrstuvwxyz", .str "abcdefghijklmnopqrstuvwxyz", .str "ab", .str "eqz"]) B (by simp) (by simp)
  have hx : ∃ signs : Str, x = .str signs ∧ 0 < signs.length ∧ AscN 26 signs := by
    simp only [List.mem_cons, List.not_mem_nil, or_false] at m1
    rcases m1 with rfl | rfl | rfl | rfl
    · exact ⟨_, rfl, by decide, abc26⟩
    · exact ⟨_, rfl, by decide, abc26⟩
    · exact ⟨_, rfl, by decide, ascL 26 (by decide) (by decide)⟩
    · exact ⟨_, rfl, by decide, ascL 26 (by decide) (by decide)⟩
  obtain ⟨signs, rfl, hs, hs2⟩ := hx
  have z4 : ((4 : Nat) ≤ sizeLine) = True := lineN (by decide)
  have z0 : ((0 : Nat) ≤ sizeLine) = True := lineN (by decide)
  have z11 : ((11 : Nat) ≤ sizeLine) = True := lineN (by decide)
  have loop : ∀ Q : Fl → Prop, (∀ s c, NmSt many signs many.toNat s c → Q (.nx s c)) → Q (sFor (iRng1 (aCons (mBw 1) aNil)) (gN 5) namesBody [.fz (.cell 0), .fz (.int many), .fz (.str signs), .ow (.lst (wordsL.map .str)), .ow (.lst []), .no, .no, .no, .no] c1) := by
    intro Q hQ
    refine sFor_go (ds := rngD 0 many.toNat) (s1 := [.fz (.cell 0), .fz (.int many), .fz (.str signs), .ow (.lst (wordsL.map .str)), .ow (.lst []), .no, .no, .no, .no]) (c1 := c1) (iRng1_e (ods := [.bw 1]) (by simp only [b_ok, b_bad, b_ex, f_ok, f_bad, f_ex, n_nx, n_rt, n_bk, n_ct, n_ex, n_bad, l_nx, l_rt, l_bk, l_ct, l_ex, l_bad, sNx_e, sSeq_e, sBk_e, sCt_e, sRetN_e, sExp_e, kExp_e, sRet_e, kRet_e, sIf_e, kIf_t, kIf_f, sSet_e, kSet_e, svOf_t, svOf_f, sSetC_e, kCell_e, sAsg_e, kG1_e, oF_s, oF_n, gN_e, gT_e, gsNil_e, gsCons_e, sPar_e, kPar1_e, kPar2_e, sPar3_e, kPr1_e, kPr2_e, kPr3_e, sPut_e, kPut1_e, kPut2_e, isLst_l, kPut_e, kPt_e, kPu_e, plGet_e, pG_o, pG_c, plS_e, pS_o, pS_f, plC_e, pC_o, pC_c, mFr_e, kFz_e, mVar_e, kVar_f, kVar_o, mMov_e, kMov_f, kMov_o, mBw_e, kBw_f, kBw_o, mCon_e, mOf_e, kOf_e, o2_e, m2_e, k2a_e, k2b_e, kDB_s, kDB_n, fl_e, m1_e, k1a_e, get_dv, get_bw, sv_f, sv_o, sv_n, de_cell, de_non, de_bool, de_int, de_str, de_fn, de_rol, de_lst, de_tup, de_dct, de_dtt, de_ins, mCB_e, kCB_e, getAll_n, getAll_c, g2_e, mVals_e, kVl_e, vals_n, vals_c, aNil_e, aCons_e, kC1_e, kC2_e, mT_e, kTb_e, tAnd_e, kAn_t, kAn_f, tOr_e, kOr_t, kOr_f, tNot_e, kNt_e, mTru_e, kTr_e, kO_s, dTru_b, mIf_e, kIfe_t, kIfe_f, mAnd_e, kAnd_t, kAnd_f, mOr_e, kOr2_t, kOr2_f, mNot_e, kNot2_e, kFr_o, mFn_e, kF1_e, kFn_e, mFnK_e, kK1_e, v2_e, kK2_e, mMut_e, kMu_e, mMut0_e, oM_e, kMut_e, pNone_e, pSome_e, kPs_e, mCut_e, kCt1_e, kCt2_e, oC3_e, kCt3_e, fM_e, endF_n, endF_r, dAdd_i, dAdd_s, dAdd_l, dAdd_t, dSub_i, dMul_i, dDiv_i, dMod_i, dPow_i, dLt_i, dLe_i, dGt_i, dGe_i, dLt_s, dEq_i, dEq_b, dEq_s, dNe_i, dNe_b, dNe_s, dInt_i, dAbs_i, dLen_l, dLen_r, dLen_t, dLen_s, dIx_l, dIx_r, dIx_t, dList_l, dList_r, dList_t, dTuple_l, dTuple_t, dDispL_e, dDispT_e, dIsN_n, dNotN_n, dIsN_bool, dNotN_bool, dIsN_int, dNotN_int, dIsN_str, dNotN_str, dIsN_lst, dNotN_lst, dIsN_tup, dNotN_tup, dIsi_non, dIsiT_non, dIsi_bool, dIsiT_bool, dIsi_int, dIsiT_int, dIsi_str, dIsiT_str, dIsi_lst, dIsiT_lst, dIsi_rol, dIsiT_rol, dIsi_tup, dIsiT_tup, mChain_e, kH1_e, kH2_e, kH3_t, kH3_f, kH4_e, mM1_e, kM1_e, kM2_e, kM3_e, mJs_n, mJs_c, kJ_e, dFmt_s, dNeg_i, dDivmod_e, dMax2_e, dMin2_e, dCut_l, dCut_r, dCut_t, dCut_s, dPop_e, fApp_e, List.getElem?_cons_zero, List.getElem?_cons_succ, List.set_cons_zero, List.set_cons_succ, Option.bind_some, Option.bind_none, Option.map_some, Option.map_none, List.map_cons, List.map_nil, List.length_cons, List.length_nil, List.replicate, List.cons_append, List.nil_append, List.set_set, if_true, if_false, ite_true, ite_false, reduceIte, Nat.reduceAdd, Nat.reduceSub, Nat.zero_add, Nat.add_zero, Bool.not_true, Bool.not_false, decide_true, decide_false, Bool.true_and, Bool.and_true, Bool.false_and, Bool.and_false, Bool.or_true, Bool.true_or, Bool.or_false, Bool.false_or, eq_self]) (by simp only [b_ok, b_bad, b_ex, f_ok, f_bad, f_ex, n_nx, n_rt, n_bk, n_ct, n_ex, n_bad, l_nx, l_rt, l_bk, l_ct, l_ex, l_bad, sNx_e, sSeq_e, sBk_e, sCt_e, sRetN_e, sExp_e, kExp_e, sRet_e, kRet_e, sIf_e, kIf_t, kIf_f, sSet_e, kSet_e, svOf_t, svOf_f, sSetC_e, kCell_e, sAsg_e, kG1_e, oF_s, oF_n, gN_e, gT_e, gsNil_e, gsCons_e, sPar_e, kPar1_e, kPar2_e, sPar3_e, kPr1_e, kPr2_e, kPr3_e, sPut_e, kPut1_e, kPut2_e, isLst_l, kPut_e, kPt_e, kPu_e, plGet_e, pG_o, pG_c, plS_e, pS_o, pS_f, plC_e, pC_o, pC_c, mFr_e, kFz_e, mVar_e, kVar_f, kVar_o, mMov_e, kMov_f, kMov_o, mBw_e, kBw_f, kBw_o, mCon_e, mOf_e, kOf_e, o2_e, m2_e, k2a_e, k2b_e, kDB_s, kDB_n, fl_e, m1_e, k1a_e, get_dv, get_bw, sv_f, sv_o, sv_n, de_cell, de_non, de_bool, de_int, de_str, de_fn, de_rol, de_lst, de_tup, de_dct, de_dtt, de_ins, mCB_e, kCB_e, getAll_n, getAll_c, g2_e, mVals_e, kVl_e, vals_n, vals_c, aNil_e, aCons_e, kC1_e, kC2_e, mT_e, kTb_e, tAnd_e, kAn_t, kAn_f, tOr_e, kOr_t, kOr_f, tNot_e, kNt_e, mTru_e, kTr_e, kO_s, dTru_b, mIf_e, kIfe_t, kIfe_f, mAnd_e, kAnd_t, kAnd_f, mOr_e, kOr2_t, kOr2_f, mNot_e, kNot2_e, kFr_o, mFn_e, kF1_e, kFn_e, mFnK_e, kK1_e, v2_e, kK2_e, mMut_e, kMu_e, mMut0_e, oM_e, kMut_e, pNone_e, pSome_e, kPs_e, mCut_e, kCt1_e, kCt2_e, oC3_e, kCt3_e, fM_e, endF_n, endF_r, dAdd_i, dAdd_s, dAdd_l, dAdd_t, dSub_i, dMul_i, dDiv_i, dMod_i, dPow_i, dLt_i, dLe_i, dGt_i, dGe_i, dLt_s, dEq_i, dEq_b, dEq_s, dNe_i, dNe_b, dNe_s, dInt_i, dAbs_i, dLen_l, dLen_r, dLen_t, dLen_s, dIx_l, dIx_r, dIx_t, dList_l, dList_r, dList_t, dTuple_l, dTuple_t, dDispL_e, dDispT_e, dIsN_n, dNotN_n, dIsN_bool, dNotN_bool, dIsN_int, dNotN_int, dIsN_str, dNotN_str, dIsN_lst, dNotN_lst, dIsN_tup, dNotN_tup, dIsi_non, dIsiT_non, dIsi_bool, dIsiT_bool, dIsi_int, dIsiT_int, dIsi_str, dIsiT_str, dIsi_lst, dIsiT_lst, dIsi_rol, dIsiT_rol, dIsi_tup, dIsiT_tup, mChain_e, kH1_e, kH2_e, kH3_t, kH3_f, kH4_e, mM1_e, kM1_e, kM2_e, kM3_e, mJs_n, mJs_c, kJ_e, dFmt_s, dNeg_i, dDivmod_e, dMax2_e, dMin2_e, dCut_l, dCut_r, dCut_t, dCut_s, dPop_e, fApp_e, List.getElem?_cons_zero, List.getElem?_cons_succ, List.set_cons_zero, List.set_cons_succ, Option.bind_some, Option.bind_none, Option.map_some, Option.map_none, List.map_cons, List.map_nil, List.length_cons, List.length_nil, List.replicate, List.cons_append, List.nil_append, List.set_set, if_true, if_false, ite_true, ite_false, reduceIte, Nat.reduceAdd, Nat.reduceSub, Nat.zero_add, Nat.add_zero, Bool.not_true, Bool.not_false, decide_true, decide_false, Bool.true_and, Bool.and_true, Bool.false_and, Bool.and_false, Bool.or_true, Bool.true_or, Bool.or_false, Bool.false_or, eq_self]) (by omega)) (NmSt many signs) Q
      ⟨_, _, _, [], rfl, .inl rfl, b1, rfl, fun _ h => by cases h⟩ (fun s c h => hQ s c (by rw [rngD_len] at h; exact h)) fun i d s c hd h => ⟨_, rfl, ?_⟩
    have hi : i < many.toNat := by
      have := (List.getElem?_eq_some_iff.mp hd).1
      rw [rngD_len] at this
      exact this
    obtain ⟨s', c', t1, t2⟩ := names_body (d := d) h (by omega) hs hs2
    rw [t1]
    exact t2
  unfold f__law_names m__law_names
  have e3 : sSet 2 (mFn 2 f__law_of (aCons (mOf (mVar 0)) (aCons (mOf (mVals dDispL (aCons (mOf (mCon (.str "abcdefghijklmnopqrstuvwxyz"))) (aCons (mOf (mCon (.str "abcdefghijklmnopqrstuvwxyz"))) (aCons (mOf (mCon (.str "ab"))) (aCons (mOf (mCon (.str "eqz"))) aNil)))))) aNil))) [.fz (.cell 0), .fz (.int many), .no, .no, .no, .no, .no, .no, .no] c = .nx [.fz (.cell 0), .fz (.int many), .fz (.str signs), .no, .no, .no, .no, .no, .no] c1 := by
    simp only [h1, z4, b_ok, b_bad, b_ex, f_ok, f_bad, f_ex, n_nx, n_rt, n_bk, n_ct, n_ex, n_bad, l_nx, l_rt, l_bk, l_ct, l_ex, l_bad, sNx_e, sSeq_e, sBk_e, sCt_e, sRetN_e, sExp_e, kExp_e, sRet_e, kRet_e, sIf_e, kIf_t, kIf_f, sSet_e, kSet_e, svOf_t, svOf_f, sSetC_e, kCell_e, sAsg_e, kG1_e, oF_s, oF_n, gN_e, gT_e, gsNil_e, gsCons_e, sPar_e, kPar1_e, kPar2_e, sPar3_e, kPr1_e, kPr2_e, kPr3_e, sPut_e, kPut1_e, kPut2_e, isLst_l, kPut_e, kPt_e, kPu_e, plGet_e, pG_o, pG_c, plS_e, pS_o, pS_f, plC_e, pC_o, pC_c, mFr_e, kFz_e, mVar_e, kVar_f, kVar_o, mMov_e, kMov_f, kMov_o, mBw_e, kBw_f, kBw_o, mCon_e, mOf_e, kOf_e, o2_e, m2_e, k2a_e, k2b_e, kDB_s, kDB_n, fl_e, m1_e, k1a_e, get_dv, get_bw, sv_f, sv_o, sv_n, de_cell, de_non, de_bool, de_int, de_str, de_fn, de_rol, de_lst, de_tup, de_dct, de_dtt, de_ins, mCB_e, kCB_e, getAll_n, getAll_c, g2_e, mVals_e, kVl_e, vals_n, vals_c, aNil_e, aCons_e, kC1_e, kC2_e, mT_e, kTb_e, tAnd_e, kAn_t, kAn_f, tOr_e, kOr_t, kOr_f, tNot_e, kNt_e, mTru_e, kTr_e, kO_s, dTru_b, mIf_e, kIfe_t, kIfe_f, mAnd_e, kAnd_t, kAnd_f, mOr_e, kOr2_t, kOr2_f, mNot_e, kNot2_e, kFr_o, mFn_e, kF1_e, kFn_e, mFnK_e, kK1_e, v2_e, kK2_e, mMut_e, kMu_e, mMut0_e, oM_e, kMut_e, pNone_e, pSome_e, kPs_e, mCut_e, kCt1_e, kCt2_e, oC3_e, kCt3_e, fM_e, endF_n, endF_r, dAdd_i, dAdd_s, dAdd_l, dAdd_t, dSub_i, dMul_i, dDiv_i, dMod_i, dPow_i, dLt_i, dLe_i, dGt_i, dGe_i, dLt_s, dEq_i, dEq_b, dEq_s, dNe_i, dNe_b, dNe_s, dInt_i, dAbs_i, dLen_l, dLen_r, dLen_t, dLen_s, dIx_l, dIx_r, dIx_t, dList_l, dList_r, dList_t, dTuple_l, dTuple_t, dDispL_e, dDispT_e, dIsN_n, dNotN_n, dIsN_bool, dNotN_bool, dIsN_int, dNotN_int, dIsN_str, dNotN_str, dIsN_lst, dNotN_lst, dIsN_tup, dNotN_tup, dIsi_non, dIsiT_non, dIsi_bool, dIsiT_bool, dIsi_int, dIsiT_int, dIsi_str, dIsiT_str, dIsi_lst, dIsiT_lst, dIsi_rol, dIsiT_rol, dIsi_tup, dIsiT_tup, mChain_e, kH1_e, kH2_e, kH3_t, kH3_f, kH4_e, mM1_e, kM1_e, kM2_e, kM3_e, mJs_n, mJs_c, kJ_e, dFmt_s, dNeg_i, dDivmod_e, dMax2_e, dMin2_e, dCut_l, dCut_r, dCut_t, dCut_s, dPop_e, fApp_e, List.getElem?_cons_zero, List.getElem?_cons_succ, List.set_cons_zero, List.set_cons_succ, Option.bind_some, Option.bind_none, Option.map_some, Option.map_none, List.map_cons, List.map_nil, List.length_cons, List.length_nil, List.replicate, List.cons_append, List.nil_append, List.set_set, if_true, if_false, ite_true, ite_false, reduceIte, Nat.reduceAdd, Nat.reduceSub, Nat.zero_add, Nat.add_zero, Bool.not_true, Bool.not_false, decide_true, decide_false, Bool.true_and, Bool.and_true, Bool.false_and, Bool.and_false, Bool.or_true, Bool.true_or, Bool.or_false, Bool.false_or, eq_self]
  have e4 : sSet 3 (mVals dDispL (aCons (mOf (mCon (.str "row"))) (aCons (mOf (mCon (.str "even"))) (aCons (mOf (mCon (.str "case"))) (aCons (mOf (mCon (.str "offer"))) (aCons (mOf (mCon (.str "end"))) (aCons (mOf (mCon (.str "reason"))) (aCons (mOf (mCon (.str "self"))) (aCons (mOf (mCon (.str "none"))) (aCons (mOf (mCon (.str "sum"))) (aCons (mOf (mCon (.str "turn"))) (aCons (mOf (mCon (.str "amount"))) aNil)))))))))))) [.fz (.cell 0), .fz (.int many), .fz (.str signs), .no, .no, .no, .no, .no, .no] c1 = .nx [.fz (.cell 0), .fz (.int many), .fz (.str signs), .ow (.lst (wordsL.map .str)), .no, .no, .no, .no, .no] c1 := by
    simp only [z11, wordsL, b_ok, b_bad, b_ex, f_ok, f_bad, f_ex, n_nx, n_rt, n_bk, n_ct, n_ex, n_bad, l_nx, l_rt, l_bk, l_ct, l_ex, l_bad, sNx_e, sSeq_e, sBk_e, sCt_e, sRetN_e, sExp_e, kExp_e, sRet_e, kRet_e, sIf_e, kIf_t, kIf_f, sSet_e, kSet_e, svOf_t, svOf_f, sSetC_e, kCell_e, sAsg_e, kG1_e, oF_s, oF_n, gN_e, gT_e, gsNil_e, gsCons_e, sPar_e, kPar1_e, kPar2_e, sPar3_e, kPr1_e, kPr2_e, kPr3_e, sPut_e, kPut1_e, kPut2_e, isLst_l, kPut_e, kPt_e, kPu_e, plGet_e, pG_o, pG_c, plS_e, pS_o, pS_f, plC_e, pC_o, pC_c, mFr_e, kFz_e, mVar_e, kVar_f, kVar_o, mMov_e, kMov_f, kMov_o, mBw_e, kBw_f, kBw_o, mCon_e, mOf_e, kOf_e, o2_e, m2_e, k2a_e, k2b_e, kDB_s, kDB_n, fl_e, m1_e, k1a_e, get_dv, get_bw, sv_f, sv_o, sv_n, de_cell, de_non, de_bool, de_int, de_str, de_fn, de_rol, de_lst, de_tup, de_dct, de_dtt, de_ins, mCB_e, kCB_e, getAll_n, getAll_c, g2_e, mVals_e, kVl_e, vals_n, vals_c, aNil_e, aCons_e, kC1_e, kC2_e, mT_e, kTb_e, tAnd_e, kAn_t, kAn_f, tOr_e, kOr_t, kOr_f, tNot_e, kNt_e, mTru_e, kTr_e, kO_s, dTru_b, mIf_e, kIfe_t, kIfe_f, mAnd_e, kAnd_t, kAnd_f, mOr_e, kOr2_t, kOr2_f, mNot_e, kNot2_e, kFr_o, mFn_e, kF1_e, kFn_e, mFnK_e, kK1_e, v2_e, kK2_e, mMut_e, kMu_e, mMut0_e, oM_e, kMut_e, pNone_e, pSome_e, kPs_e, mCut_e, kCt1_e, kCt2_e, oC3_e, kCt3_e, fM_e, endF_n, endF_r, dAdd_i, dAdd_s, dAdd_l, dAdd_t, dSub_i, dMul_i, dDiv_i, dMod_i, dPow_i, dLt_i, dLe_i, dGt_i, dGe_i, dLt_s, dEq_i, dEq_b, dEq_s, dNe_i, dNe_b, dNe_s, dInt_i, dAbs_i, dLen_l, dLen_r, dLen_t, dLen_s, dIx_l, dIx_r, dIx_t, dList_l, dList_r, dList_t, dTuple_l, dTuple_t, dDispL_e, dDispT_e, dIsN_n, dNotN_n, dIsN_bool, dNotN_bool, dIsN_int, dNotN_int, dIsN_str, dNotN_str, dIsN_lst, dNotN_lst, dIsN_tup, dNotN_tup, dIsi_non, dIsiT_non, dIsi_bool, dIsiT_bool, dIsi_int, dIsiT_int, dIsi_str, dIsiT_str, dIsi_lst, dIsiT_lst, dIsi_rol, dIsiT_rol, dIsi_tup, dIsiT_tup, mChain_e, kH1_e, kH2_e, kH3_t, kH3_f, kH4_e, mM1_e, kM1_e, kM2_e, kM3_e, mJs_n, mJs_c, kJ_e, dFmt_s, dNeg_i, dDivmod_e, dMax2_e, dMin2_e, dCut_l, dCut_r, dCut_t, dCut_s, dPop_e, fApp_e, List.getElem?_cons_zero, List.getElem?_cons_succ, List.set_cons_zero, List.set_cons_succ, Option.bind_some, Option.bind_none, Option.map_some, Option.map_none, List.map_cons, List.map_nil, List.length_cons, List.length_nil, List.replicate, List.cons_append, List.nil_append, List.set_set, if_true, if_false, ite_true, ite_false, reduceIte, Nat.reduceAdd, Nat.reduceSub, Nat.zero_add, Nat.add_zero, Bool.not_true, Bool.not_false, decide_true, decide_false, Bool.true_and, Bool.and_true, Bool.false_and, Bool.and_false, Bool.or_true, Bool.true_or, Bool.or_false, Bool.false_or, eq_self]
  have e5 : sSet 4 (mVals dDispL aNil) [.fz (.cell 0), .fz (.int many), .fz (.str signs), .ow (.lst (wordsL.map .str)), .no, .no, .no, .no, .no] c1 = .nx [.fz (.cell 0), .fz (.int many), .fz (.str signs), .ow (.lst (wordsL.map .str)), .ow (.lst []), .no, .no, .no, .no] c1 := by
    simp only [z0, b_ok, b_bad, b_ex, f_ok, f_bad, f_ex, n_nx, n_rt, n_bk, n_ct, n_ex, n_bad, l_nx, l_rt, l_bk, l_ct, l_ex, l_bad, sNx_e, sSeq_e, sBk_e, sCt_e, sRetN_e, sExp_e, kExp_e, sRet_e, kRet_e, sIf_e, kIf_t, kIf_f, sSet_e, kSet_e, svOf_t, svOf_f, sSetC_e, kCell_e, sAsg_e, kG1_e, oF_s, oF_n, gN_e, gT_e, gsNil_e, gsCons_e, sPar_e, kPar1_e, kPar2_e, sPar3_e, kPr1_e, kPr2_e, kPr3_e, sPut_e, kPut1_e, kPut2_e, isLst_l, kPut_e, kPt_e, kPu_e, plGet_e, pG_o, pG_c, plS_e, pS_o, pS_f, plC_e, pC_o, pC_c, mFr_e, kFz_e, mVar_e, kVar_f, kVar_o, mMov_e, kMov_f, kMov_o, mBw_e, kBw_f, kBw_o, mCon_e, mOf_e, kOf_e, o2_e, m2_e, k2a_e, k2b_e, kDB_s, kDB_n, fl_e, m1_e, k1a_e, get_dv, get_bw, sv_f, sv_o, sv_n, de_cell, de_non, de_bool, de_int, de_str, de_fn, de_rol, de_lst, de_tup, de_dct, de_dtt, de_ins, mCB_e, kCB_e, getAll_n, getAll_c, g2_e, mVals_e, kVl_e, vals_n, vals_c, aNil_e, aCons_e, kC1_e, kC2_e, mT_e, kTb_e, tAnd_e, kAn_t, kAn_f, tOr_e, kOr_t, kOr_f, tNot_e, kNt_e, mTru_e, kTr_e, kO_s, dTru_b, mIf_e, kIfe_t, kIfe_f, mAnd_e, kAnd_t, kAnd_f, mOr_e, kOr2_t, kOr2_f, mNot_e, kNot2_e, kFr_o, mFn_e, kF1_e, kFn_e, mFnK_e, kK1_e, v2_e, kK2_e, mMut_e, kMu_e, mMut0_e, oM_e, kMut_e, pNone_e, pSome_e, kPs_e, mCut_e, kCt1_e, kCt2_e, oC3_e, kCt3_e, fM_e, endF_n, endF_r, dAdd_i, dAdd_s, dAdd_l, dAdd_t, dSub_i, dMul_i, dDiv_i, dMod_i, dPow_i, dLt_i, dLe_i, dGt_i, dGe_i, dLt_s, dEq_i, dEq_b, dEq_s, dNe_i, dNe_b, dNe_s, dInt_i, dAbs_i, dLen_l, dLen_r, dLen_t, dLen_s, dIx_l, dIx_r, dIx_t, dList_l, dList_r, dList_t, dTuple_l, dTuple_t, dDispL_e, dDispT_e, dIsN_n, dNotN_n, dIsN_bool, dNotN_bool, dIsN_int, dNotN_int, dIsN_str, dNotN_str, dIsN_lst, dNotN_lst, dIsN_tup, dNotN_tup, dIsi_non, dIsiT_non, dIsi_bool, dIsiT_bool, dIsi_int, dIsiT_int, dIsi_str, dIsiT_str, dIsi_lst, dIsiT_lst, dIsi_rol, dIsiT_rol, dIsi_tup, dIsiT_tup, mChain_e, kH1_e, kH2_e, kH3_t, kH3_f, kH4_e, mM1_e, kM1_e, kM2_e, kM3_e, mJs_n, mJs_c, kJ_e, dFmt_s, dNeg_i, dDivmod_e, dMax2_e, dMin2_e, dCut_l, dCut_r, dCut_t, dCut_s, dPop_e, fApp_e, List.getElem?_cons_zero, List.getElem?_cons_succ, List.set_cons_zero, List.set_cons_succ, Option.bind_some, Option.bind_none, Option.map_some, Option.map_none, List.map_cons, List.map_nil, List.length_cons, List.length_nil, List.replicate, List.cons_append, List.nil_append, List.set_set, if_true, if_false, ite_true, ite_false, reduceIte, Nat.reduceAdd, Nat.reduceSub, Nat.zero_add, Nat.add_zero, Bool.not_true, Bool.not_false, decide_true, decide_false, Bool.true_and, Bool.and_true, Bool.false_and, Bool.and_false, Bool.or_true, Bool.true_or, Bool.or_false, Bool.false_or, eq_self]
  simp only [fM_e, List.map_cons, List.map_nil, List.length_cons, List.length_nil, Nat.reduceAdd, Nat.zero_add, Nat.reduceSub, List.replicate, List.cons_append, List.nil_append, sSeq_e, e3, e4, e5, n_nx]
  refine loop (fun o => ∃ (ws : List Str) (c' : CL), endF (o.nxt (sRet (mMov 4))) = .ok (.lst (ws.map .str), true) [] c' ∧ Bg c' ∧ ws.length ≤ 8 ∧ ∀ w ∈ ws, AscN 10 w) fun s c' h => ?_
  obtain ⟨x3, x5, x6, ws, rfl, h3, b, l, a⟩ := h
  refine ⟨ws, c', ?_, b, by omega, a⟩
  simp only [b_ok, b_bad, b_ex, f_ok, f_bad, f_ex, n_nx, n_rt, n_bk, n_ct, n_ex, n_bad, l_nx, l_rt, l_bk, l_ct, l_ex, l_bad, sNx_e, sSeq_e, sBk_e, sCt_e, sRetN_e, sExp_e, kExp_e, sRet_e, kRet_e, sIf_e, kIf_t, kIf_f, sSet_e, kSet_e, svOf_t, svOf_f, sSetC_e, kCell_e, sAsg_e, kG1_e, oF_s, oF_n, gN_e, gT_e, gsNil_e, gsCons_e, sPar_e, kPar1_e, kPar2_e, sPar3_e, kPr1_e, kPr2_e, kPr3_e, sPut_e, kPut1_e, kPut2_e, isLst_l, kPut_e, kPt_e, kPu_e, plGet_e, pG_o, pG_c, plS_e, pS_o, pS_f, plC_e, pC_o, pC_c, mFr_e, kFz_e, mVar_e, kVar_f, kVar_o, mMov_e, kMov_f, kMov_o, mBw_e, kBw_f, kBw_o, mCon_e, mOf_e, kOf_e, o2_e, m2_e, k2a_e, k2b_e, kDB_s, kDB_n, fl_e, m1_e, k1a_e, get_dv, get_bw, sv_f, sv_o, sv_n, de_cell, de_non, de_bool, de_int, de_str, de_fn, de_rol, de_lst, de_tup, de_dct, de_dtt, de_ins, mCB_e, kCB_e, getAll_n, getAll_c, g2_e, mVals_e, kVl_e, vals_n, vals_c, aNil_e, aCons_e, kC1_e, kC2_e, mT_e, kTb_e, tAnd_e, kAn_t, kAn_f, tOr_e, kOr_t, kOr_f, tNot_e, kNt_e, mTru_e, kTr_e, kO_s, dTru_b, mIf_e, kIfe_t, kIfe_f, mAnd_e, kAnd_t, kAnd_f, mOr_e, kOr2_t, kOr2_f, mNot_e, kNot2_e, kFr_o, mFn_e, kF1_e, kFn_e, mFnK_e, kK1_e, v2_e, kK2_e, mMut_e, kMu_e, mMut0_e, oM_e, kMut_e, pNone_e, pSome_e, kPs_e, mCut_e, kCt1_e, kCt2_e, oC3_e, kCt3_e, fM_e, endF_n, endF_r, dAdd_i, dAdd_s, dAdd_l, dAdd_t, dSub_i, dMul_i, dDiv_i, dMod_i, dPow_i, dLt_i, dLe_i, dGt_i, dGe_i, dLt_s, dEq_i, dEq_b, dEq_s, dNe_i, dNe_b, dNe_s, dInt_i, dAbs_i, dLen_l, dLen_r, dLen_t, dLen_s, dIx_l, dIx_r, dIx_t, dList_l, dList_r, dList_t, dTuple_l, dTuple_t, dDispL_e, dDispT_e, dIsN_n, dNotN_n, dIsN_bool, dNotN_bool, dIsN_int, dNotN_int, dIsN_str, dNotN_str, dIsN_lst, dNotN_lst, dIsN_tup, dNotN_tup, dIsi_non, dIsiT_non, dIsi_bool, dIsiT_bool, dIsi_int, dIsiT_int, dIsi_str, dIsiT_str, dIsi_lst, dIsiT_lst, dIsi_rol, dIsiT_rol, dIsi_tup, dIsiT_tup, mChain_e, kH1_e, kH2_e, kH3_t, kH3_f, kH4_e, mM1_e, kM1_e, kM2_e, kM3_e, mJs_n, mJs_c, kJ_e, dFmt_s, dNeg_i, dDivmod_e, dMax2_e, dMin2_e, dCut_l, dCut_r, dCut_t, dCut_s, dPop_e, fApp_e, List.getElem?_cons_zero, List.getElem?_cons_succ, List.set_cons_zero, List.set_cons_succ, Option.bind_some, Option.bind_none, Option.map_some, Option.map_none, List.map_cons, List.map_nil, List.length_cons, List.length_nil, List.replicate, List.cons_append, List.nil_append, List.set_set, if_true, if_false, ite_true, ite_false, reduceIte, Nat.reduceAdd, Nat.reduceSub, Nat.zero_add, Nat.add_zero, Bool.not_true, Bool.not_false, decide_true, decide_false, Bool.true_and, Bool.and_true, Bool.false_and, Bool.and_false, Bool.or_true, Bool.true_or, Bool.or_false, Bool.false_or, eq_self]
end KW

set_option Elab.async false
set_option linter.all false
set_option maxRecDepth 100000
namespace KW
open PySem PySem.Spec L2 EV
open PyProof.Rows hiding St
theorem cutD_len {xs : List EV.D} {lo hi : Option Int} : (EV.cutD xs lo hi).length ≤ xs.length := by
  unfold EV.cutD
  rw [List.length_take, List.length_drop]
  omega
theorem cutD_mem {xs : List EV.D} {lo hi : Option Int} {d : EV.D} (h : d ∈ EV.cutD xs lo hi) : d ∈ xs := List.mem_of_mem_drop (List.mem_of_mem_take h)
theorem things_ok {c : CL} (B : Bg c) : ∃ d b c', f__law_things [.cell 0] c = .ok (d, b) [] c' ∧ Bg c' ∧ Th 2 d := by
  obtain ⟨x, c1, h1, b1, m1⟩ := of_l (xs := [.int 0, .int 1, .int 2, .int 3, .int 4, .int 8]) B (by simp) (by simp)
  have hx : ∃ many : Int, x = .int many ∧ 0 ≤ many ∧ many ≤ 8 := by
    simp only [List.mem_cons, List.not_mem_nil, or_false] at m1
    rcases m1 with rfl | rfl | rfl | rfl | rfl | rfl <;> exact ⟨_, rfl, by decide, by decide⟩
  obtain ⟨many, rfl, hm⟩ := hx
  obtain ⟨ws, c2, h2, b2, l2, a2⟩ := names_ok b1 hm
  have hso := dSorted_e (xs := ws) (by omega)
  have l3 : (sortS ws).length = ws.length := (sortS_perm ws).length_eq
  have a3 : ∀ d ∈ (sortS ws).map EV.D.str, Th 1 d := fun d hd => by
    obtain ⟨w, hw, rfl⟩ := List.mem_map.mp hd
    exact .str ((a2 w ((sortS_perm ws).mem_iff.mp hw)).asc (by decide))
  have lm : ((sortS ws).map EV.D.str).length ≤ 8 := by rw [List.length_map, l3]; exact l2
  generalize (sortS ws).map EV.D.str = S at hso a3 lm
  obtain ⟨p, c3, h4, b3, l4⟩ := draw_bg b2 (sides := (S.length : Int) + 1) (by omega) (by omega)
  obtain ⟨q, c4, h5, b4, l5⟩ := draw_bg b3 (sides := 7) (by decide) (by decide)
  have z6 : ((6 : Nat) ≤ sizeLine) = True := lineN (by decide)
  have z4 : ((4 : Nat) ≤ sizeLine) = True := lineN (by decide)
  have z1 : ((1 : Nat) ≤ sizeLine) = True := lineN (by decide)
  have lc : ∀ {lo hi}, (EV.cutD S lo hi).length ≤ 8 := fun {lo hi} => Nat.le_trans cutD_len lm
  by_cases q0 : (q : Int) = 0
  · have e0 : ((q : Int) = 0) = True := eq_true q0
    refine ⟨.lst S, true, c4, ?_, b4, .lst (by omega) a3⟩
    simp only [f__law_things, m__law_things, h1, h2, hso, h4, h5, e0, z6, b_ok, b_bad, b_ex, f_ok, f_bad, f_ex, n_nx, n_rt, n_bk, n_ct, n_ex, n_bad, l_nx, l_rt, l_bk, l_ct, l_ex, l_bad, sNx_e, sSeq_e, sBk_e, sCt_e, sRetN_e, sExp_e, kExp_e, sRet_e, kRet_e, sIf_e, kIf_t, kIf_f, sSet_e, kSet_e, svOf_t, svOf_f, sSetC_e, kCell_e, sAsg_e, kG1_e, oF_s, oF_n, gN_e, gT_e, gsNil_e, gsCons_e, sPar_e, kPar1_e, kPar2_e, sPar3_e, kPr1_e, kPr2_e, kPr3_e, sPut_e, kPut1_e, kPut2_e, isLst_l, kPut_e, kPt_e, kPu_e, plGet_e, pG_o, pG_c, plS_e, pS_o, pS_f, plC_e, pC_o, pC_c, mFr_e, kFz_e, mVar_e, kVar_f, kVar_o, mMov_e, kMov_f, kMov_o, mBw_e, kBw_f, kBw_o, mCon_e, mOf_e, kOf_e, o2_e, m2_e, k2a_e, k2b_e, kDB_s, kDB_n, fl_e, m1_e, k1a_e, get_dv, get_bw, sv_f, sv_o, sv_n, de_cell, de_non, de_bool, de_int, de_str, de_fn, de_rol, de_lst, de_tup, de_dct, de_dtt, de_ins, mCB_e, kCB_e, getAll_n, getAll_c, g2_e, mVals_e, kVl_e, vals_n, vals_c, aNil_e, aCons_e, kC1_e, kC2_e, mT_e, kTb_e, tAnd_e, kAn_t, kAn_f, tOr_e, kOr_t, kOr_f, tNot_e, kNt_e, mTru_e, kTr_e, kO_s, dTru_b, mIf_e, kIfe_t, kIfe_f, mAnd_e, kAnd_t, kAnd_f, mOr_e, kOr2_t, kOr2_f, mNot_e, kNot2_e, kFr_o, mFn_e, kF1_e, kFn_e, mFnK_e, kK1_e, v2_e, kK2_e, mMut_e, kMu_e, mMut0_e, oM_e, kMut_e, pNone_e, pSome_e, kPs_e, mCut_e, kCt1_e, kCt2_e, oC3_e, kCt3_e, fM_e, endF_n, endF_r, dAdd_i, dAdd_s, dAdd_l, dAdd_t, dSub_i, dMul_i, dDiv_i, dMod_i, dPow_i, dLt_i, dLe_i, dGt_i, dGe_i, dLt_s, dEq_i, dEq_b, dEq_s, dNe_i, dNe_b, dNe_s, dInt_i, dAbs_i, dLen_l, dLen_r, dLen_t, dLen_s, dIx_l, dIx_r, dIx_t, dList_l, dList_r, dList_t, dTuple_l, dTuple_t, dDispL_e, dDispT_e, dIsN_n, dNotN_n, dIsN_bool, dNotN_bool, dIsN_int, dNotN_int, dIsN_str, dNotN_str, dIsN_lst, dNotN_lst, dIsN_tup, dNotN_tup, dIsi_non, dIsiT_non, dIsi_bool, dIsiT_bool, dIsi_int, dIsiT_int, dIsi_str, dIsiT_str, dIsi_lst, dIsiT_lst, dIsi_rol, dIsiT_rol, dIsi_tup, dIsiT_tup, mChain_e, kH1_e, kH2_e, kH3_t, kH3_f, kH4_e, mM1_e, kM1_e, kM2_e, kM3_e, mJs_n, mJs_c, kJ_e, dFmt_s, dNeg_i, dDivmod_e, dMax2_e, dMin2_e, dCut_l, dCut_r, dCut_t, dCut_s, dPop_e, fApp_e, List.getElem?_cons_zero, List.getElem?_cons_succ, List.set_cons_zero, List.set_cons_succ, Option.bind_some, Option.bind_none, Option.map_some, Option.map_none, List.map_cons, List.map_nil, List.length_cons, List.length_nil, List.replicate, List.cons_append, List.nil_append, List.set_set, if_true, if_false, ite_true, ite_false, reduceIte, Nat.reduceAdd, Nat.reduceSub, Nat.zero_add, Nat.add_zero, Bool.not_true, Bool.not_false, decide_true, decide_false, Bool.true_and, Bool.and_true, Bool.false_and, Bool.and_false, Bool.or_true, Bool.true_or, Bool.or_false, Bool.false_or, eq_self]
  · have e0 : ((q : Int) = 0) = False := eq_false q0
    by_cases q1 : (q : Int) = 1
    · have e1 : ((q : Int) = 1) = True := eq_true q1
      obtain ⟨ys, c5, h6, b5, l6, m6⟩ := mixed_ok (xs := S) b4 (by omega)
      refine ⟨.tup ys, false, c5, ?_, b5, .tup (by omega) fun d hd => a3 d (m6 d hd)⟩
      simp only [f__law_things, m__law_things, h1, h2, hso, h4, h5, h6, e0, e1, z6, b_ok, b_bad, b_ex, f_ok, f_bad, f_ex, n_nx, n_rt, n_bk, n_ct, n_ex, n_bad, l_nx, l_rt, l_bk, l_ct, l_ex, l_bad, sNx_e, sSeq_e, sBk_e, sCt_e, sRetN_e, sExp_e, kExp_e, sRet_e, kRet_e, sIf_e, kIf_t, kIf_f, sSet_e, kSet_e, svOf_t, svOf_f, sSetC_e, kCell_e, sAsg_e, kG1_e, oF_s, oF_n, gN_e, gT_e, gsNil_e, gsCons_e, sPar_e, kPar1_e, kPar2_e, sPar3_e, kPr1_e, kPr2_e, kPr3_e, sPut_e, kPut1_e, kPut2_e, isLst_l, kPut_e, kPt_e, kPu_e, plGet_e, pG_o, pG_c, plS_e, pS_o, pS_f, plC_e, pC_o, pC_c, mFr_e, kFz_e, mVar_e, kVar_f, kVar_o, mMov_e, kMov_f, kMov_o, mBw_e, kBw_f, kBw_o, mCon_e, mOf_e, kOf_e, o2_e, m2_e, k2a_e, k2b_e, kDB_s, kDB_n, fl_e, m1_e, k1a_e, get_dv, get_bw, sv_f, sv_o, sv_n, de_cell, de_non, de_bool, de_int, de_str, de_fn, de_rol, de_lst, de_tup, de_dct, de_dtt, de_ins, mCB_e, kCB_e, getAll_n, getAll_c, g2_e, mVals_e, kVl_e, vals_n, vals_c, aNil_e, aCons_e, kC1_e, kC2_e, mT_e, kTb_e, tAnd_e, kAn_t, kAn_f, tOr_e, kOr_t, kOr_f, tNot_e, kNt_e, mTru_e, kTr_e, kO_s, dTru_b, mIf_e, kIfe_t, kIfe_f, mAnd_e, kAnd_t, kAnd_f, mOr_e, kOr2_t, kOr2_f, mNot_e, kNot2_e, kFr_o, mFn_e, kF1_e, kFn_e, mFnK_e, kK1_e, v2_e, kK2_e, mMut_e, kMu_e, mMut0_e, oM_e, kMut_e, pNone_e, pSome_e, kPs_e, mCut_e, kCt1_e, kCt2_e, oC3_e, kCt3_e, fM_e, endF_n, endF_r, dAdd_i, dAdd_s, dAdd_l, dAdd_t, dSub_i, dMul_i, dDiv_i, dMod_i, dPow_i, dLt_i, dLe_i, dGt_i, dGe_i, dLt_s, dEq_i, dEq_b, dEq_s, dNe_i, dNe_b, dNe_s, dInt_i, dAbs_i, dLen_l, dLen_r, dLen_t, dLen_s, dIx_l, dIx_r, dIx_t, dList_l, dList_r, dList_t, dTuple_l, dTuple_t, dDispL_e, dDispT_e, dIsN_n, dNotN_n, dIsN_bool, dNotN_bool, dIsN_int, dNotN_int, dIsN_str, dNotN_str, dIsN_lst, dNotN_lst, dIsN_tup, dNotN_tup, dIsi_non, dIsiT_non, dIsi_bool, dIsiT_bool, dIsi_int, dIsiT_int, dIsi_str, dIsiT_str, dIsi_lst, dIsiT_lst, dIsi_rol, dIsiT_rol, dIsi_tup, dIsiT_tup, mChain_e, kH1_e, kH2_e, kH3_t, kH3_f, kH4_e, mM1_e, kM1_e, kM2_e, kM3_e, mJs_n, mJs_c, kJ_e, dFmt_s, dNeg_i, dDivmod_e, dMax2_e, dMin2_e, dCut_l, dCut_r, dCut_t, dCut_s, dPop_e, fApp_e, List.getElem?_cons_zero, List.getElem?_cons_succ, List.set_cons_zero, List.set_cons_succ, Option.bind_some, Option.bind_none, Option.map_some, Option.map_none, List.map_cons, List.map_nil, List.length_cons, List.length_nil, List.replicate, List.cons_append, List.nil_append, List.set_set, if_true, if_false, ite_true, ite_false, reduceIte, Nat.reduceAdd, Nat.reduceSub, Nat.zero_add, Nat.add_zero, Bool.not_true, Bool.not_false, decide_true, decide_false, Bool.true_and, Bool.and_true, Bool.false_and, Bool.and_false, Bool.or_true, Bool.true_or, Bool.or_false, Bool.false_or, eq_self]
    · have e1 : ((q : Int) = 1) = False := eq_false q1
      by_cases q2 : (q : Int) = 2
      · have e2 : ((q : Int) = 2) = True := eq_true q2
        have zz : ((EV.cutD S none (some (p : Int))).length + (EV.cutD S (some (if (0 : Int) > (p : Int) - 1 then 0 else (p : Int) - 1)) none).length ≤ sizeLine) = True := lineN (by have := lc (lo := none) (hi := some (p : Int)); have := lc (lo := some (if (0 : Int) > (p : Int) - 1 then 0 else (p : Int) - 1)) (hi := none); omega)
        refine ⟨.tup (EV.cutD S none (some (p : Int)) ++ EV.cutD S (some (if (0 : Int) > (p : Int) - 1 then 0 else (p : Int) - 1)) none), false, c4, ?_, b4, .tup (by rw [List.length_append]; have := lc (lo := none) (hi := some (p : Int)); have := lc (lo := some (if (0 : Int) > (p : Int) - 1 then 0 else (p : Int) - 1)) (hi := none); omega) fun d hd => ?_⟩
        · simp only [f__law_things, m__law_things, h1, h2, hso, h4, h5, e0, e1, e2, z6, zz, b_ok, b_bad, b_ex, f_ok, f_bad, f_ex, n_nx, n_rt, n_bk, n_ct, n_ex, n_bad, l_nx, l_rt, l_bk, l_ct, l_ex, l_bad, sNx_e, sSeq_e, sBk_e, sCt_e, sRetN_e, sExp_e, kExp_e, sRet_e, kRet_e, sIf_e, kIf_t, kIf_f, sSet_e, kSet_e, svOf_t, svOf_f, sSetC_e, kCell_e, sAsg_e, kG1_e, oF_s, oF_n, gN_e, gT_e, gsNil_e, gsCons_e, sPar_e, kPar1_e, kPar2_e, sPar3_e, kPr1_e, kPr2_e, kPr3_e, sPut_e, kPut1_e, kPut2_e, isLst_l, kPut_e, kPt_e, kPu_e, plGet_e, pG_o, pG_c, plS_e, pS_o, pS_f, plC_e, pC_o, pC_c, mFr_e, kFz_e, mVar_e, kVar_f, kVar_o, mMov_e, kMov_f, kMov_o, mBw_e, kBw_f, kBw_o, mCon_e, mOf_e, kOf_e, o2_e, m2_e, k2a_e, k2b_e, kDB_s, kDB_n, fl_e, m1_e, k1a_e, get_dv, get_bw, sv_f, sv_o, sv_n, de_cell, de_non, de_bool, de_int, de_str, de_fn, de_rol, de_lst, de_tup, de_dct, de_dtt, de_ins, mCB_e, kCB_e, getAll_n, getAll_c, g2_e, mVals_e, kVl_e, vals_n, vals_c, aNil_e, aCons_e, kC1_e, kC2_e, mT_e, kTb_e, tAnd_e, kAn_t, kAn_f, tOr_e, kOr_t, kOr_f, tNot_e, kNt_e, mTru_e, kTr_e, kO_s, dTru_b, mIf_e, kIfe_t, kIfe_f, mAnd_e, kAnd_t, kAnd_f, mOr_e, kOr2_t, kOr2_f, mNot_e, kNot2_e, kFr_o, mFn_e, kF1_e, kFn_e, mFnK_e, kK1_e, v2_e, kK2_e, mMut_e, kMu_e, mMut0_e, oM_e, kMut_e, pNone_e, pSome_e, kPs_e, mCut_e, kCt1_e, kCt2_e, oC3_e, kCt3_e, fM_e, endF_n, endF_r, dAdd_i, dAdd_s, dAdd_l, dAdd_t, dSub_i, dMul_i, dDiv_i, dMod_i, dPow_i, dLt_i, dLe_i, dGt_i, dGe_i, dLt_s, dEq_i, dEq_b, dEq_s, dNe_i, dNe_b, dNe_s, dInt_i, dAbs_i, dLen_l, dLen_r, dLen_t, dLen_s, dIx_l, dIx_r, dIx_t, dList_l, dList_r, dList_t, dTuple_l, dTuple_t, dDispL_e, dDispT_e, dIsN_n, dNotN_n, dIsN_bool, dNotN_bool, dIsN_int, dNotN_int, dIsN_str, dNotN_str, dIsN_lst, dNotN_lst, dIsN_tup, dNotN_tup, dIsi_non, dIsiT_non, dIsi_bool, dIsiT_bool, dIsi_int, dIsiT_int, dIsi_str, dIsiT_str, dIsi_lst, dIsiT_lst, dIsi_rol, dIsiT_rol, dIsi_tup, dIsiT_tup, mChain_e, kH1_e, kH2_e, kH3_t, kH3_f, kH4_e, mM1_e, kM1_e, kM2_e, kM3_e, mJs_n, mJs_c, kJ_e, dFmt_s, dNeg_i, dDivmod_e, dMax2_e, dMin2_e, dCut_l, dCut_r, dCut_t, dCut_s, dPop_e, fApp_e, List.getElem?_cons_zero, List.getElem?_cons_succ, List.set_cons_zero, List.set_cons_succ, Option.bind_some, Option.bind_none, Option.map_some, Option.map_none, List.map_cons, List.map_nil, List.length_cons, List.length_nil, List.replicate, List.cons_append, List.nil_append, List.set_set, if_true, if_false, ite_true, ite_false, reduceIte, Nat.reduceAdd, Nat.reduceSub, Nat.zero_add, Nat.add_zero, Bool.not_true, Bool.not_false, decide_true, decide_false, Bool.true_and, Bool.and_true, Bool.false_and, Bool.and_false, Bool.or_true, Bool.true_or, Bool.or_false, Bool.false_or, eq_self]
        · rcases List.mem_append.mp hd with hd | hd
          · exact a3 d (cutD_mem hd)
          · exact a3 d (cutD_mem hd)
      · have e2 : ((q : Int) = 2) = False := eq_false q2
        have mid : ∀ x : EV.D, Th 1 x → Th 2 (.tup (EV.cutD S none (some (p : Int)) ++ [x] ++ EV.cutD S (some (p : Int)) none)) := fun x hx => .tup (by
          rw [List.length_append, List.length_append]
          have := lc (lo := none) (hi := some (p : Int))
          have := lc (lo := some (p : Int)) (hi := none)
          simp only [List.length_cons, List.length_nil]
          omega) fun d hd => by
          rcases List.mem_append.mp hd with hd | hd
          · rcases List.mem_append.mp hd with hd | hd
            · exact a3 d (cutD_mem hd)
            · have : d = x := by simpa using hd
              rw [this]
              exact hx
          · exact a3 d (cutD_mem hd)
        have za : ((EV.cutD S none (some (p : Int))).length + 1 ≤ sizeLine) = True := lineN (by have := lc (lo := none) (hi := some (p : Int)); omega)
        have zb : ∀ x : EV.D, ((EV.cutD S none (some (p : Int)) ++ [x]).length + (EV.cutD S (some (p : Int)) none).length ≤ sizeLine) = True := fun x => lineN (by
          rw [List.length_append]
          have := lc (lo := none) (hi := some (p : Int))
          have := lc (lo := some (p : Int)) (hi := none)
          simp only [List.length_cons, List.length_nil]
          omega)
        by_cases q3 : (q : Int) = 3
        · have e3 : ((q : Int) = 3) = True := eq_true q3
          obtain ⟨x, c5, h6, b5, t6⟩ := odd_ok (more := [.int 1, .str "Zz", .tup [.str "a"], .str "abcdefg"]) b4 (fun d hd => by
            simp only [List.mem_cons, List.not_mem_nil, or_false] at hd
            rcases hd with rfl | rfl | rfl | rfl
            · exact .int _
            · exact .str (ascs _ 2 (by decide) (by decide) (by decide))
            · exact .tup (by simp) fun d hd => by
                have : d = .str "a" := by simpa using hd
                rw [this]
                exact .str (ascs _ 1 (by decide) (by decide) (by decide))
            · exact .str (ascs _ 7 (by decide) (by decide) (by decide))) (by simp)
          refine ⟨_, false, c5, ?_, b5, mid x t6⟩
          simp only [f__law_things, m__law_things, h1, h2, hso, h4, h5, h6, e0, e1, e2, e3, z6, z4, z1, za, zb, b_ok, b_bad, b_ex, f_ok, f_bad, f_ex, n_nx, n_rt, n_bk, n_ct, n_ex, n_bad, l_nx, l_rt, l_bk, l_ct, l_ex, l_bad, sNx_e, sSeq_e, sBk_e, sCt_e, sRetN_e, sExp_e, kExp_e, sRet_e, kRet_e, sIf_e, kIf_t, kIf_f, sSet_e, kSet_e, svOf_t, svOf_f, sSetC_e, kCell_e, sAsg_e, kG1_e, oF_s, oF_n, gN_e, gT_e, gsNil_e, gsCons_e, sPar_e, kPar1_e, kPar2_e, sPar3_e, kPr1_e, kPr2_e, kPr3_e, sPut_e, kPut1_e, kPut2_e, isLst_l, kPut_e, kPt_e, kPu_e, plGet_e, pG_o, pG_c, plS_e, pS_o, pS_f, plC_e, pC_o, pC_c, mFr_e, kFz_e, mVar_e, kVar_f, kVar_o, mMov_e, kMov_f, kMov_o, mBw_e, kBw_f, kBw_o, mCon_e, mOf_e, kOf_e, o2_e, m2_e, k2a_e, k2b_e, kDB_s, kDB_n, fl_e, m1_e, k1a_e, get_dv, get_bw, sv_f, sv_o, sv_n, de_cell, de_non, de_bool, de_int, de_str, de_fn, de_rol, de_lst, de_tup, de_dct, de_dtt, de_ins, mCB_e, kCB_e, getAll_n, getAll_c, g2_e, mVals_e, kVl_e, vals_n, vals_c, aNil_e, aCons_e, kC1_e, kC2_e, mT_e, kTb_e, tAnd_e, kAn_t, kAn_f, tOr_e, kOr_t, kOr_f, tNot_e, kNt_e, mTru_e, kTr_e, kO_s, dTru_b, mIf_e, kIfe_t, kIfe_f, mAnd_e, kAnd_t, kAnd_f, mOr_e, kOr2_t, kOr2_f, mNot_e, kNot2_e, kFr_o, mFn_e, kF1_e, kFn_e, mFnK_e, kK1_e, v2_e, kK2_e, mMut_e, kMu_e, mMut0_e, oM_e, kMut_e, pNone_e, pSome_e, kPs_e, mCut_e, kCt1_e, kCt2_e, oC3_e, kCt3_e, fM_e, endF_n, endF_r, dAdd_i, dAdd_s, dAdd_l, dAdd_t, dSub_i, dMul_i, dDiv_i, dMod_i, dPow_i, dLt_i, dLe_i, dGt_i, dGe_i, dLt_s, dEq_i, dEq_b, dEq_s, dNe_i, dNe_b, dNe_s, dInt_i, dAbs_i, dLen_l, dLen_r, dLen_t, dLen_s, dIx_l, dIx_r, dIx_t, dList_l, dList_r, dList_t, dTuple_l, dTuple_t, dDispL_e, dDispT_e, dIsN_n, dNotN_n, dIsN_bool, dNotN_bool, dIsN_int, dNotN_int, dIsN_str, dNotN_str, dIsN_lst, dNotN_lst, dIsN_tup, dNotN_tup, dIsi_non, dIsiT_non, dIsi_bool, dIsiT_bool, dIsi_int, dIsiT_int, dIsi_str, dIsiT_str, dIsi_lst, dIsiT_lst, dIsi_rol, dIsiT_rol, dIsi_tup, dIsiT_tup, mChain_e, kH1_e, kH2_e, kH3_t, kH3_f, kH4_e, mM1_e, kM1_e, kM2_e, kM3_e, mJs_n, mJs_c, kJ_e, dFmt_s, dNeg_i, dDivmod_e, dMax2_e, dMin2_e, dCut_l, dCut_r, dCut_t, dCut_s, dPop_e, fApp_e, List.getElem?_cons_zero, List.getElem?_cons_succ, List.set_cons_zero, List.set_cons_succ, Option.bind_some, Option.bind_none, Option.map_some, Option.map_none, List.map_cons, List.map_nil, List.length_cons, List.length_nil, List.replicate, List.cons_append, List.nil_append, List.set_set, if_true, if_false, ite_true, ite_false, reduceIte, Nat.reduceAdd, Nat.reduceSub, Nat.zero_add, Nat.add_zero, Bool.not_true, Bool.not_false, decide_true, decide_false, Bool.true_and, Bool.and_true, Bool.false_and, Bool.and_false, Bool.or_true, Bool.true_or, Bool.or_false, Bool.false_or, eq_self]
        · have e3 : ((q : Int) = 3) = False := eq_false q3
          by_cases q4 : (q : Int) = 4
          · have e4 : ((q : Int) = 4) = True := eq_true q4
            obtain ⟨w, c5, h6, b5, t6⟩ := string_ok b4
            refine ⟨_, false, c5, ?_, b5, mid (.str w) (.str (t6.asc (by decide)))⟩
            simp only [f__law_things, m__law_things, h1, h2, hso, h4, h5, h6, e0, e1, e2, e3, e4, z6, z1, za, zb, b_ok, b_bad, b_ex, f_ok, f_bad, f_ex, n_nx, n_rt, n_bk, n_ct, n_ex, n_bad, l_nx, l_rt, l_bk, l_ct, l_ex, l_bad, sNx_e, sSeq_e, sBk_e, sCt_e, sRetN_e, sExp_e, kExp_e, sRet_e, kRet_e, sIf_e, kIf_t, kIf_f, sSet_e, kSet_e, svOf_t, svOf_f, sSetC_e, kCell_e, sAsg_e, kG1_e, oF_s, oF_n, gN_e, gT_e, gsNil_e, gsCons_e, sPar_e, kPar1_e, kPar2_e, sPar3_e, kPr1_e, kPr2_e, kPr3_e, sPut_e, kPut1_e, kPut2_e, isLst_l, kPut_e, kPt_e, kPu_e, plGet_e, pG_o, pG_c, plS_e, pS_o, pS_f, plC_e, pC_o, pC_c, mFr_e, kFz_e, mVar_e, kVar_f, kVar_o, mMov_e, kMov_f, kMov_o, mBw_e, kBw_f, kBw_o, mCon_e, mOf_e, kOf_e, o2_e, m2_e, k2a_e, k2b_e, kDB_s, kDB_n, fl_e, m1_e, k1a_e, get_dv, get_bw, sv_f, sv_o, sv_n, de_cell, de_non, de_bool, de_int, de_str, de_fn, de_rol, de_lst, de_tup, de_dct, de_dtt, de_ins, mCB_e, kCB_e, getAll_n, getAll_c, g2_e, mVals_e, kVl_e, vals_n, vals_c, aNil_e, aCons_e, kC1_e, kC2_e, mT_e, kTb_e, tAnd_e, kAn_t, kAn_f, tOr_e, kOr_t, kOr_f, tNot_e, kNt_e, mTru_e, kTr_e, kO_s, dTru_b, mIf_e, kIfe_t, kIfe_f, mAnd_e, kAnd_t, kAnd_f, mOr_e, kOr2_t, kOr2_f, mNot_e, kNot2_e, kFr_o, mFn_e, kF1_e, kFn_e, mFnK_e, kK1_e, v2_e, kK2_e, mMut_e, kMu_e, mMut0_e, oM_e, kMut_e, pNone_e, pSome_e, kPs_e, mCut_e, kCt1_e, kCt2_e, oC3_e, kCt3_e, fM_e, endF_n, endF_r, dAdd_i, dAdd_s, dAdd_l, dAdd_t, dSub_i, dMul_i, dDiv_i, dMod_i, dPow_i, dLt_i, dLe_i, dGt_i, dGe_i, dLt_s, dEq_i, dEq_b, dEq_s, dNe_i, dNe_b, dNe_s, dInt_i, dAbs_i, dLen_l, dLen_r, dLen_t, dLen_s, dIx_l, dIx_r, dIx_t, dList_l, dList_r, dList_t, dTuple_l, dTuple_t, dDispL_e, dDispT_e, dIsN_n, dNotN_n, dIsN_bool, dNotN_bool, dIsN_int, dNotN_int, dIsN_str, dNotN_str, dIsN_lst, dNotN_lst, dIsN_tup, dNotN_tup, dIsi_non, dIsiT_non, dIsi_bool, dIsiT_bool, dIsi_int, dIsiT_int, dIsi_str, dIsiT_str, dIsi_lst, dIsiT_lst, dIsi_rol, dIsiT_rol, dIsi_tup, dIsiT_tup, mChain_e, kH1_e, kH2_e, kH3_t, kH3_f, kH4_e, mM1_e, kM1_e, kM2_e, kM3_e, mJs_n, mJs_c, kJ_e, dFmt_s, dNeg_i, dDivmod_e, dMax2_e, dMin2_e, dCut_l, dCut_r, dCut_t, dCut_s, dPop_e, fApp_e, List.getElem?_cons_zero, List.getElem?_cons_succ, List.set_cons_zero, List.set_cons_succ, Option.bind_some, Option.bind_none, Option.map_some, Option.map_none, List.map_cons, List.map_nil, List.length_cons, List.length_nil, List.replicate, List.cons_append, List.nil_append, List.set_set, if_true, if_false, ite_true, ite_false, reduceIte, Nat.reduceAdd, Nat.reduceSub, Nat.zero_add, Nat.add_zero, Bool.not_true, Bool.not_false, decide_true, decide_false, Bool.true_and, Bool.and_true, Bool.false_and, Bool.and_false, Bool.or_true, Bool.true_or, Bool.or_false, Bool.false_or, eq_self]
          · have e4 : ((q : Int) = 4) = False := eq_false q4
            refine ⟨.tup S, false, c4, ?_, b4, .tup (by omega) a3⟩
            simp only [f__law_things, m__law_things, h1, h2, hso, h4, h5, e0, e1, e2, e3, e4, z6, b_ok, b_bad, b_ex, f_ok, f_bad, f_ex, n_nx, n_rt, n_bk, n_ct, n_ex, n_bad, l_nx, l_rt, l_bk, l_ct, l_ex, l_bad, sNx_e, sSeq_e, sBk_e, sCt_e, sRetN_e, sExp_e, kExp_e, sRet_e, kRet_e, sIf_e, kIf_t, kIf_f, sSet_e, kSet_e, svOf_t, svOf_f, sSetC_e, kCell_e, sAsg_e, kG1_e, oF_s, oF_n, gN_e, gT_e, gsNil_e, gsCons_e, sPar_e, kPar1_e, kPar2_e, sPar3_e, kPr1_e, kPr2_e, kPr3_e, sPut_e, kPut1_e, kPut2_e, isLst_l, kPut_e, kPt_e, kPu_e, plGet_e, pG_o, pG_c, plS_e, pS_o, pS_f, plC_e, pC_o, pC_c, mFr_e, kFz_e, mVar_e, kVar_f, kVar_o, mMov_e, kMov_f, kMov_o, mBw_e, kBw_f, kBw_o, mCon_e, mOf_e, kOf_e, o2_e, m2_e, k2a_e, k2b_e, kDB_s, kDB_n, fl_e, m1_e, k1a_e, get_dv, get_bw, sv_f, sv_o, sv_n, de_cell, de_non, de_bool, de_int, de_str, de_fn, de_rol, de_lst, de_tup, de_dct, de_dtt, de_ins, mCB_e, kCB_e, getAll_n, getAll_c, g2_e, mVals_e, kVl_e, vals_n, vals_c, aNil_e, aCons_e, kC1_e, kC2_e, mT_e, kTb_e, tAnd_e, kAn_t, kAn_f, tOr_e, kOr_t, kOr_f, tNot_e, kNt_e, mTru_e, kTr_e, kO_s, dTru_b, mIf_e, kIfe_t, kIfe_f, mAnd_e, kAnd_t, kAnd_f, mOr_e, kOr2_t, kOr2_f, mNot_e, kNot2_e, kFr_o, mFn_e, kF1_e, kFn_e, mFnK_e, kK1_e, v2_e, kK2_e, mMut_e, kMu_e, mMut0_e, oM_e, kMut_e, pNone_e, pSome_e, kPs_e, mCut_e, kCt1_e, kCt2_e, oC3_e, kCt3_e, fM_e, endF_n, endF_r, dAdd_i, dAdd_s, dAdd_l, dAdd_t, dSub_i, dMul_i, dDiv_i, dMod_i, dPow_i, dLt_i, dLe_i, dGt_i, dGe_i, dLt_s, dEq_i, dEq_b, dEq_s, dNe_i, dNe_b, dNe_s, dInt_i, dAbs_i, dLen_l, dLen_r, dLen_t, dLen_s, dIx_l, dIx_r, dIx_t, dList_l, dList_r, dList_t, dTuple_l, dTuple_t, dDispL_e, dDispT_e, dIsN_n, dNotN_n, dIsN_bool, dNotN_bool, dIsN_int, dNotN_int, dIsN_str, dNotN_str, dIsN_lst, dNotN_lst, dIsN_tup, dNotN_tup, dIsi_non, dIsiT_non, dIsi_bool, dIsiT_bool, dIsi_int, dIsiT_int, dIsi_str, dIsiT_str, dIsi_lst, dIsiT_lst, dIsi_rol, dIsiT_rol, dIsi_tup, dIsiT_tup, mChain_e, kH1_e, kH2_e, kH3_t, kH3_f, kH4_e, mM1_e, kM1_e, kM2_e, kM3_e, mJs_n, mJs_c, kJ_e, dFmt_s, dNeg_i, dDivmod_e, dMax2_e, dMin2_e, dCut_l, dCut_r, dCut_t, dCut_s, dPop_e, fApp_e, List.getElem?_cons_zero, List.getElem?_cons_succ, List.set_cons_zero, List.set_cons_succ, Option.bind_some, Option.bind_none, Option.map_some, Option.map_none, List.map_cons, List.map_nil, List.length_cons, List.length_nil, List.replicate, List.cons_append, List.nil_append, List.set_set, if_true, if_false, ite_true, ite_false, reduceIte, Nat.reduceAdd, Nat.reduceSub, Nat.zero_add, Nat.add_zero, Bool.not_true, Bool.not_false, decide_true, decide_false, Bool.true_and, Bool.and_true, Bool.false_and, Bool.and_false, Bool.or_true, Bool.true_or, Bool.or_false, Bool.false_or, eq_self]
end KW

set_option Elab.async false
set_option linter.all false
set_option maxRecDepth 100000
namespace KW
open PySem PySem.Spec L2 EV
open PyProof.Rows hiding St
def num (d : EV.D) (lo hi : Int) : Bool := match d with
  | .int i => decide (lo ≤ i) && decide (i ≤ hi)
  | _ => false
def Nu (d : EV.D) : Prop := d = .non ∨ (∃ b, d = .bool b) ∨ (∃ i, d = .int i) ∨ (∃ x, d = .str x) ∨ (∃ l, d = .lst l) ∨ ∃ l, d = .tup l
theorem Th.nu {n : Nat} {d : EV.D} (h : Th n d) : Nu d := by
  cases h with
  | non => exact .inl rfl
  | bool b => exact .inr (.inl ⟨b, rfl⟩)
  | int i => exact .inr (.inr (.inl ⟨i, rfl⟩))
  | str h => exact .inr (.inr (.inr (.inl ⟨_, rfl⟩)))
  | lst _ _ => exact .inr (.inr (.inr (.inr (.inl ⟨_, rfl⟩))))
  | tup _ _ => exact .inr (.inr (.inr (.inr (.inr ⟨_, rfl⟩))))
theorem number_ok {d : EV.D} {lo hi : Int} {c : CL} (h : Nu d) : f_is_number [d, .int lo, .int hi] c = .ok (.bool (num d lo hi), false) [] c := by
  rcases h with rfl | ⟨b, rfl⟩ | ⟨i, rfl⟩ | ⟨x, rfl⟩ | ⟨l, rfl⟩ | ⟨l, rfl⟩
  · simp only [f_is_number, m_is_number, tyIs, num, b_ok, b_bad, b_ex, f_ok, f_bad, f_ex, n_nx, n_rt, n_bk, n_ct, n_ex, n_bad, l_nx, l_rt, l_bk, l_ct, l_ex, l_bad, sNx_e, sSeq_e, sBk_e, sCt_e, sRetN_e, sExp_e, kExp_e, sRet_e, kRet_e, sIf_e, kIf_t, kIf_f, sSet_e, kSet_e, svOf_t, svOf_f, sSetC_e, kCell_e, sAsg_e, kG1_e, oF_s, oF_n, gN_e, gT_e, gsNil_e, gsCons_e, sPar_e, kPar1_e, kPar2_e, sPar3_e, kPr1_e, kPr2_e, kPr3_e, sPut_e, kPut1_e, kPut2_e, isLst_l, kPut_e, kPt_e, kPu_e, plGet_e, pG_o, pG_c, plS_e, pS_o, pS_f, plC_e, pC_o, pC_c, mFr_e, kFz_e, mVar_e, kVar_f, kVar_o, mMov_e, kMov_f, kMov_o, mBw_e, kBw_f, kBw_o, mCon_e, mOf_e, kOf_e, o2_e, m2_e, k2a_e, k2b_e, kDB_s, kDB_n, fl_e, m1_e, k1a_e, get_dv, get_bw, sv_f, sv_o, sv_n, de_cell, de_non, de_bool, de_int, de_str, de_fn, de_rol, de_lst, de_tup, de_dct, de_dtt, de_ins, mCB_e, kCB_e, getAll_n, getAll_c, g2_e, mVals_e, kVl_e, vals_n, vals_c, aNil_e, aCons_e, kC1_e, kC2_e, mT_e, kTb_e, tAnd_e, kAn_t, kAn_f, tOr_e, kOr_t, kOr_f, tNot_e, kNt_e, mTru_e, kTr_e, kO_s, dTru_b, mIf_e, kIfe_t, kIfe_f, mAnd_e, kAnd_t, kAnd_f, mOr_e, kOr2_t, kOr2_f, mNot_e, kNot2_e, kFr_o, mFn_e, kF1_e, kFn_e, mFnK_e, kK1_e, v2_e, kK2_e, mMut_e, kMu_e, mMut0_e, oM_e, kMut_e, pNone_e, pSome_e, kPs_e, mCut_e, kCt1_e, kCt2_e, oC3_e, kCt3_e, fM_e, endF_n, endF_r, dAdd_i, dAdd_s, dAdd_l, dAdd_t, dSub_i, dMul_i, dDiv_i, dMod_i, dPow_i, dLt_i, dLe_i, dGt_i, dGe_i, dLt_s, dEq_i, dEq_b, dEq_s, dNe_i, dNe_b, dNe_s, dInt_i, dAbs_i, dLen_l, dLen_r, dLen_t, dLen_s, dIx_l, dIx_r, dIx_t, dList_l, dList_r, dList_t, dTuple_l, dTuple_t, dDispL_e, dDispT_e, dIsN_n, dNotN_n, dIsN_bool, dNotN_bool, dIsN_int, dNotN_int, dIsN_str, dNotN_str, dIsN_lst, dNotN_lst, dIsN_tup, dNotN_tup, dIsi_non, dIsiT_non, dIsi_bool, dIsiT_bool, dIsi_int, dIsiT_int, dIsi_str, dIsiT_str, dIsi_lst, dIsiT_lst, dIsi_rol, dIsiT_rol, dIsi_tup, dIsiT_tup, mChain_e, kH1_e, kH2_e, kH3_t, kH3_f, kH4_e, mM1_e, kM1_e, kM2_e, kM3_e, mJs_n, mJs_c, kJ_e, dFmt_s, dNeg_i, dDivmod_e, dMax2_e, dMin2_e, dCut_l, dCut_r, dCut_t, dCut_s, dPop_e, fApp_e, List.getElem?_cons_zero, List.getElem?_cons_succ, List.set_cons_zero, List.set_cons_succ, Option.bind_some, Option.bind_none, Option.map_some, Option.map_none, List.map_cons, List.map_nil, List.length_cons, List.length_nil, List.replicate, List.cons_append, List.nil_append, List.set_set, if_true, if_false, ite_true, ite_false, reduceIte, Nat.reduceAdd, Nat.reduceSub, Nat.zero_add, Nat.add_zero, Bool.not_true, Bool.not_false, decide_true, decide_false, Bool.true_and, Bool.and_true, Bool.false_and, Bool.and_false, Bool.or_true, Bool.true_or, Bool.or_false, Bool.false_or, eq_self]
  · simp only [f_is_number, m_is_number, tyIs, num, b_ok, b_bad, b_ex, f_ok, f_bad, f_ex, n_nx, n_rt, n_bk, n_ct, n_ex, n_bad, l_nx, l_rt, l_bk, l_ct, l_ex, l_bad, sNx_e, sSeq_e, sBk_e, sCt_e, sRetN_e, sExp_e, kExp_e, sRet_e, kRet_e, sIf_e, kIf_t, kIf_f, sSet_e, kSet_e, svOf_t, svOf_f, sSetC_e, kCell_e, sAsg_e, kG1_e, oF_s, oF_n, gN_e, gT_e, gsNil_e, gsCons_e, sPar_e, kPar1_e, kPar2_e, sPar3_e, kPr1_e, kPr2_e, kPr3_e, sPut_e, kPut1_e, kPut2_e, isLst_l, kPut_e, kPt_e, kPu_e, plGet_e, pG_o, pG_c, plS_e, pS_o, pS_f, plC_e, pC_o, pC_c, mFr_e, kFz_e, mVar_e, kVar_f, kVar_o, mMov_e, kMov_f, kMov_o, mBw_e, kBw_f, kBw_o, mCon_e, mOf_e, kOf_e, o2_e, m2_e, k2a_e, k2b_e, kDB_s, kDB_n, fl_e, m1_e, k1a_e, get_dv, get_bw, sv_f, sv_o, sv_n, de_cell, de_non, de_bool, de_int, de_str, de_fn, de_rol, de_lst, de_tup, de_dct, de_dtt, de_ins, mCB_e, kCB_e, getAll_n, getAll_c, g2_e, mVals_e, kVl_e, vals_n, vals_c, aNil_e, aCons_e, kC1_e, kC2_e, mT_e, kTb_e, tAnd_e, kAn_t, kAn_f, tOr_e, kOr_t, kOr_f, tNot_e, kNt_e, mTru_e, kTr_e, kO_s, dTru_b, mIf_e, kIfe_t, kIfe_f, mAnd_e, kAnd_t, kAnd_f, mOr_e, kOr2_t, kOr2_f, mNot_e, kNot2_e, kFr_o, mFn_e, kF1_e, kFn_e, mFnK_e, kK1_e, v2_e, kK2_e, mMut_e, kMu_e, mMut0_e, oM_e, kMut_e, pNone_e, pSome_e, kPs_e, mCut_e, kCt1_e, kCt2_e, oC3_e, kCt3_e, fM_e, endF_n, endF_r, dAdd_i, dAdd_s, dAdd_l, dAdd_t, dSub_i, dMul_i, dDiv_i, dMod_i, dPow_i, dLt_i, dLe_i, dGt_i, dGe_i, dLt_s, dEq_i, dEq_b, dEq_s, dNe_i, dNe_b, dNe_s, dInt_i, dAbs_i, dLen_l, dLen_r, dLen_t, dLen_s, dIx_l, dIx_r, dIx_t, dList_l, dList_r, dList_t, dTuple_l, dTuple_t, dDispL_e, dDispT_e, dIsN_n, dNotN_n, dIsN_bool, dNotN_bool, dIsN_int, dNotN_int, dIsN_str, dNotN_str, dIsN_lst, dNotN_lst, dIsN_tup, dNotN_tup, dIsi_non, dIsiT_non, dIsi_bool, dIsiT_bool, dIsi_int, dIsiT_int, dIsi_str, dIsiT_str, dIsi_lst, dIsiT_lst, dIsi_rol, dIsiT_rol, dIsi_tup, dIsiT_tup, mChain_e, kH1_e, kH2_e, kH3_t, kH3_f, kH4_e, mM1_e, kM1_e, kM2_e, kM3_e, mJs_n, mJs_c, kJ_e, dFmt_s, dNeg_i, dDivmod_e, dMax2_e, dMin2_e, dCut_l, dCut_r, dCut_t, dCut_s, dPop_e, fApp_e, List.getElem?_cons_zero, List.getElem?_cons_succ, List.set_cons_zero, List.set_cons_succ, Option.bind_some, Option.bind_none, Option.map_some, Option.map_none, List.map_cons, List.map_nil, List.length_cons, List.length_nil, List.replicate, List.cons_append, List.nil_append, List.set_set, if_true, if_false, ite_true, ite_false, reduceIte, Nat.reduceAdd, Nat.reduceSub, Nat.zero_add, Nat.add_zero, Bool.not_true, Bool.not_false, decide_true, decide_false, Bool.true_and, Bool.and_true, Bool.false_and, Bool.and_false, Bool.or_true, Bool.true_or, Bool.or_false, Bool.false_or, eq_self]
  · by_cases h1 : lo ≤ i
    · have e1 : (lo ≤ i) = True := eq_true h1
      simp only [f_is_number, m_is_number, tyIs, num, e1, b_ok, b_bad, b_ex, f_ok, f_bad, f_ex, n_nx, n_rt, n_bk, n_ct, n_ex, n_bad, l_nx, l_rt, l_bk, l_ct, l_ex, l_bad, sNx_e, sSeq_e, sBk_e, sCt_e, sRetN_e, sExp_e, kExp_e, sRet_e, kRet_e, sIf_e, kIf_t, kIf_f, sSet_e, kSet_e, svOf_t, svOf_f, sSetC_e, kCell_e, sAsg_e, kG1_e, oF_s, oF_n, gN_e, gT_e, gsNil_e, gsCons_e, sPar_e, kPar1_e, kPar2_e, sPar3_e, kPr1_e, kPr2_e, kPr3_e, sPut_e, kPut1_e, kPut2_e, isLst_l, kPut_e, kPt_e, kPu_e, plGet_e, pG_o, pG_c, plS_e, pS_o, pS_f, plC_e, pC_o, pC_c, mFr_e, kFz_e, mVar_e, kVar_f, kVar_o, mMov_e, kMov_f, kMov_o, mBw_e, kBw_f, kBw_o, mCon_e, mOf_e, kOf_e, o2_e, m2_e, k2a_e, k2b_e, kDB_s, kDB_n, fl_e, m1_e, k1a_e, get_dv, get_bw, sv_f, sv_o, sv_n, de_cell, de_non, de_bool, de_int, de_str, de_fn, de_rol, de_lst, de_tup, de_dct, de_dtt, de_ins, mCB_e, kCB_e, getAll_n, getAll_c, g2_e, mVals_e, kVl_e, vals_n, vals_c, aNil_e, aCons_e, kC1_e, kC2_e, mT_e, kTb_e, tAnd_e, kAn_t, kAn_f, tOr_e, kOr_t, kOr_f, tNot_e, kNt_e, mTru_e, kTr_e, kO_s, dTru_b, mIf_e, kIfe_t, kIfe_f, mAnd_e, kAnd_t, kAnd_f, mOr_e, kOr2_t, kOr2_f, mNot_e, kNot2_e, kFr_o, mFn_e, kF1_e, kFn_e, mFnK_e, kK1_e, v2_e, kK2_e, mMut_e, kMu_e, mMut0_e, oM_e, kMut_e, pNone_e, pSome_e, kPs_e, mCut_e, kCt1_e, kCt2_e, oC3_e, kCt3_e, fM_e, endF_n, endF_r, dAdd_i, dAdd_s, dAdd_l, dAdd_t, dSub_i, dMul_i, dDiv_i, dMod_i, dPow_i, dLt_i, dLe_i, dGt_i, dGe_i, dLt_s, dEq_i, dEq_b, dEq_s, dNe_i, dNe_b, dNe_s, dInt_i, dAbs_i, dLen_l, dLen_r, dLen_t, dLen_s, dIx_l, dIx_r, dIx_t, dList_l, dList_r, dList_t, dTuple_l, dTuple_t, dDispL_e, dDispT_e, dIsN_n, dNotN_n, dIsN_bool, dNotN_bool, dIsN_int, dNotN_int, dIsN_str, dNotN_str, dIsN_lst, dNotN_lst, dIsN_tup, dNotN_tup, dIsi_non, dIsiT_non, dIsi_bool, dIsiT_bool, dIsi_int, dIsiT_int, dIsi_str, dIsiT_str, dIsi_lst, dIsiT_lst, dIsi_rol, dIsiT_rol, dIsi_tup, dIsiT_tup, mChain_e, kH1_e, kH2_e, kH3_t, kH3_f, kH4_e, mM1_e, kM1_e, kM2_e, kM3_e, mJs_n, mJs_c, kJ_e, dFmt_s, dNeg_i, dDivmod_e, dMax2_e, dMin2_e, dCut_l, dCut_r, dCut_t, dCut_s, dPop_e, fApp_e, List.getElem?_cons_zero, List.getElem?_cons_succ, List.set_cons_zero, List.set_cons_succ, Option.bind_some, Option.bind_none, Option.map_some, Option.map_none, List.map_cons, List.map_nil, List.length_cons, List.length_nil, List.replicate, List.cons_append, List.nil_append, List.set_set, if_true, if_false, ite_true, ite_false, reduceIte, Nat.reduceAdd, Nat.reduceSub, Nat.zero_add, Nat.add_zero, Bool.not_true, Bool.not_false, decide_true, decide_false, Bool.true_and, Bool.and_true, Bool.false_and, Bool.and_false, Bool.or_true, Bool.true_or, Bool.or_false, Bool.false_or, eq_self]
    · have e1 : (lo ≤ i) = False := eq_false h1
      simp only [f_is_number, m_is_number, tyIs, num, e1, b_ok, b_bad, b_ex, f_ok, f_bad, f_ex, n_nx, n_rt, n_bk, n_ct, n_ex, n_bad, l_nx, l_rt, l_bk, l_ct, l_ex, l_bad, sNx_e, sSeq_e, sBk_e, sCt_e, sRetN_e, sExp_e, kExp_e, sRet_e, kRet_e, sIf_e, kIf_t, kIf_f, sSet_e, kSet_e, svOf_t, svOf_f, sSetC_e, kCell_e, sAsg_e, kG1_e, oF_s, oF_n, gN_e, gT_e, gsNil_e, gsCons_e, sPar_e, kPar1_e, kPar2_e, sPar3_e, kPr1_e, kPr2_e, kPr3_e, sPut_e, kPut1_e, kPut2_e, isLst_l, kPut_e, kPt_e, kPu_e, plGet_e, pG_o, pG_c, plS_e, pS_o, pS_f, plC_e, pC_o, pC_c, mFr_e, kFz_e, mVar_e, kVar_f, kVar_o, mMov_e, kMov_f, kMov_o, mBw_e, kBw_f, kBw_o, mCon_e, mOf_e, kOf_e, o2_e, m2_e, k2a_e, k2b_e, kDB_s, kDB_n, fl_e, m1_e, k1a_e, get_dv, get_bw, sv_f, sv_o, sv_n, de_cell, de_non, de_bool, de_int, de_str, de_fn, de_rol, de_lst, de_tup, de_dct, de_dtt, de_ins, mCB_e, kCB_e, getAll_n, getAll_c, g2_e, mVals_e, kVl_e, vals_n, vals_c, aNil_e, aCons_e, kC1_e, kC2_e, mT_e, kTb_e, tAnd_e, kAn_t, kAn_f, tOr_e, kOr_t, kOr_f, tNot_e, kNt_e, mTru_e, kTr_e, kO_s, dTru_b, mIf_e, kIfe_t, kIfe_f, mAnd_e, kAnd_t, kAnd_f, mOr_e, kOr2_t, kOr2_f, mNot_e, kNot2_e, kFr_o, mFn_e, kF1_e, kFn_e, mFnK_e, kK1_e, v2_e, kK2_e, mMut_e, kMu_e, mMut0_e, oM_e, kMut_e, pNone_e, pSome_e, kPs_e, mCut_e, kCt1_e, kCt2_e, oC3_e, kCt3_e, fM_e, endF_n, endF_r, dAdd_i, dAdd_s, dAdd_l, dAdd_t, dSub_i, dMul_i, dDiv_i, dMod_i, dPow_i, dLt_i, dLe_i, dGt_i, dGe_i, dLt_s, dEq_i, dEq_b, dEq_s, dNe_i, dNe_b, dNe_s, dInt_i, dAbs_i, dLen_l, dLen_r, dLen_t, dLen_s, dIx_l, dIx_r, dIx_t, dList_l, dList_r, dList_t, dTuple_l, dTuple_t, dDispL_e, dDispT_e, dIsN_n, dNotN_n, dIsN_bool, dNotN_bool, dIsN_int, dNotN_int, dIsN_str, dNotN_str, dIsN_lst, dNotN_lst, dIsN_tup, dNotN_tup, dIsi_non, dIsiT_non, dIsi_bool, dIsiT_bool, dIsi_int, dIsiT_int, dIsi_str, dIsiT_str, dIsi_lst, dIsiT_lst, dIsi_rol, dIsiT_rol, dIsi_tup, dIsiT_tup, mChain_e, kH1_e, kH2_e, kH3_t, kH3_f, kH4_e, mM1_e, kM1_e, kM2_e, kM3_e, mJs_n, mJs_c, kJ_e, dFmt_s, dNeg_i, dDivmod_e, dMax2_e, dMin2_e, dCut_l, dCut_r, dCut_t, dCut_s, dPop_e, fApp_e, List.getElem?_cons_zero, List.getElem?_cons_succ, List.set_cons_zero, List.set_cons_succ, Option.bind_some, Option.bind_none, Option.map_some, Option.map_none, List.map_cons, List.map_nil, List.length_cons, List.length_nil, List.replicate, List.cons_append, List.nil_append, List.set_set, if_true, if_false, ite_true, ite_false, reduceIte, Nat.reduceAdd, Nat.reduceSub, Nat.zero_add, Nat.add_zero, Bool.not_true, Bool.not_false, decide_true, decide_false, Bool.true_and, Bool.and_true, Bool.false_and, Bool.and_false, Bool.or_true, Bool.true_or, Bool.or_false, Bool.false_or, eq_self]
  · simp only [f_is_number, m_is_number, tyIs, num, b_ok, b_bad, b_ex, f_ok, f_bad, f_ex, n_nx, n_rt, n_bk, n_ct, n_ex, n_bad, l_nx, l_rt, l_bk, l_ct, l_ex, l_bad, sNx_e, sSeq_e, sBk_e, sCt_e, sRetN_e, sExp_e, kExp_e, sRet_e, kRet_e, sIf_e, kIf_t, kIf_f, sSet_e, kSet_e, svOf_t, svOf_f, sSetC_e, kCell_e, sAsg_e, kG1_e, oF_s, oF_n, gN_e, gT_e, gsNil_e, gsCons_e, sPar_e, kPar1_e, kPar2_e, sPar3_e, kPr1_e, kPr2_e, kPr3_e, sPut_e, kPut1_e, kPut2_e, isLst_l, kPut_e, kPt_e, kPu_e, plGet_e, pG_o, pG_c, plS_e, pS_o, pS_f, plC_e, pC_o, pC_c, mFr_e, kFz_e, mVar_e, kVar_f, kVar_o, mMov_e, kMov_f, kMov_o, mBw_e, kBw_f, kBw_o, mCon_e, mOf_e, kOf_e, o2_e, m2_e, k2a_e, k2b_e, kDB_s, kDB_n, fl_e, m1_e, k1a_e, get_dv, get_bw, sv_f, sv_o, sv_n, de_cell, de_non, de_bool, de_int, de_str, de_fn, de_rol, de_lst, de_tup, de_dct, de_dtt, de_ins, mCB_e, kCB_e, getAll_n, getAll_c, g2_e, mVals_e, kVl_e, vals_n, vals_c, aNil_e, aCons_e, kC1_e, kC2_e, mT_e, kTb_e, tAnd_e, kAn_t, kAn_f, tOr_e, kOr_t, kOr_f, tNot_e, kNt_e, mTru_e, kTr_e, kO_s, dTru_b, mIf_e, kIfe_t, kIfe_f, mAnd_e, kAnd_t, kAnd_f, mOr_e, kOr2_t, kOr2_f, mNot_e, kNot2_e, kFr_o, mFn_e, kF1_e, kFn_e, mFnK_e, kK1_e, v2_e, kK2_e, mMut_e, kMu_e, mMut0_e, oM_e, kMut_e, pNone_e, pSome_e, kPs_e, mCut_e, kCt1_e, kCt2_e, oC3_e, kCt3_e, fM_e, endF_n, endF_r, dAdd_i, dAdd_s, dAdd_l, dAdd_t, dSub_i, dMul_i, dDiv_i, dMod_i, dPow_i, dLt_i, dLe_i, dGt_i, dGe_i, dLt_s, dEq_i, dEq_b, dEq_s, dNe_i, dNe_b, dNe_s, dInt_i, dAbs_i, dLen_l, dLen_r, dLen_t, dLen_s, dIx_l, dIx_r, dIx_t, dList_l, dList_r, dList_t, dTuple_l, dTuple_t, dDispL_e, dDispT_e, dIsN_n, dNotN_n, dIsN_bool, dNotN_bool, dIsN_int, dNotN_int, dIsN_str, dNotN_str, dIsN_lst, dNotN_lst, dIsN_tup, dNotN_tup, dIsi_non, dIsiT_non, dIsi_bool, dIsiT_bool, dIsi_int, dIsiT_int, dIsi_str, dIsiT_str, dIsi_lst, dIsiT_lst, dIsi_rol, dIsiT_rol, dIsi_tup, dIsiT_tup, mChain_e, kH1_e, kH2_e, kH3_t, kH3_f, kH4_e, mM1_e, kM1_e, kM2_e, kM3_e, mJs_n, mJs_c, kJ_e, dFmt_s, dNeg_i, dDivmod_e, dMax2_e, dMin2_e, dCut_l, dCut_r, dCut_t, dCut_s, dPop_e, fApp_e, List.getElem?_cons_zero, List.getElem?_cons_succ, List.set_cons_zero, List.set_cons_succ, Option.bind_some, Option.bind_none, Option.map_some, Option.map_none, List.map_cons, List.map_nil, List.length_cons, List.length_nil, List.replicate, List.cons_append, List.nil_append, List.set_set, if_true, if_false, ite_true, ite_false, reduceIte, Nat.reduceAdd, Nat.reduceSub, Nat.zero_add, Nat.add_zero, Bool.not_true, Bool.not_false, decide_true, decide_false, Bool.true_and, Bool.and_true, Bool.false_and, Bool.and_false, Bool.or_true, Bool.true_or, Bool.or_false, Bool.false_or, eq_self]
  · simp only [f_is_number, m_is_number, tyIs, num, b_ok, b_bad, b_ex, f_ok, f_bad, f_ex, n_nx, n_rt, n_bk, n_ct, n_ex, n_bad, l_nx, l_rt, l_bk, l_ct, l_ex, l_bad, sNx_e, sSeq_e, sBk_e, sCt_e, sRetN_e, sExp_e, kExp_e, sRet_e, kRet_e, sIf_e, kIf_t, kIf_f, sSet_e, kSet_e, svOf_t, svOf_f, sSetC_e, kCell_e, sAsg_e, kG1_e, oF_s, oF_n, gN_e, gT_e, gsNil_e, gsCons_e, sPar_e, kPar1_e, kPar2_e, sPar3_e, kPr1_e, kPr2_e, kPr3_e, sPut_e, kPut1_e, kPut2_e, isLst_l, kPut_e, kPt_e, kPu_e, plGet_e, pG_o, pG_c, plS_e, pS_o, pS_f, plC_e, pC_o, pC_c, mFr_e, kFz_e, mVar_e, kVar_f, kVar_o, mMov_e, kMov_f, kMov_o, mBw_e, kBw_f, kBw_o, mCon_e, mOf_e, kOf_e, o2_e, m2_e, k2a_e, k2b_e, kDB_s, kDB_n, fl_e, m1_e, k1a_e, get_dv, get_bw, sv_f, sv_o, sv_n, de_cell, de_non, de_bool, de_int, de_str, de_fn, de_rol, de_lst, de_tup, de_dct, de_dtt, de_ins, mCB_e, kCB_e, getAll_n, getAll_c, g2_e, mVals_e, kVl_e, vals_n, vals_c, aNil_e, aCons_e, kC1_e, kC2_e, mT_e, kTb_e, tAnd_e, kAn_t, kAn_f, tOr_e, kOr_t, kOr_f, tNot_e, kNt_e, mTru_e, kTr_e, kO_s, dTru_b, mIf_e, kIfe_t, kIfe_f, mAnd_e, kAnd_t, kAnd_f, mOr_e, kOr2_t, kOr2_f, mNot_e, kNot2_e, kFr_o, mFn_e, kF1_e, kFn_e, mFnK_e, kK1_e, v2_e, kK2_e, mMut_e, kMu_e, mMut0_e, oM_e, kMut_e, pNone_e, pSome_e, kPs_e, mCut_e, kCt1_e, kCt2_e, oC3_e, kCt3_e, fM_e, endF_n, endF_r, dAdd_i, dAdd_s, dAdd_l, dAdd_t, dSub_i, dMul_i, dDiv_i, dMod_i, dPow_i, dLt_i, dLe_i, dGt_i, dGe_i, dLt_s, dEq_i, dEq_b, dEq_s, dNe_i, dNe_b, dNe_s, dInt_i, dAbs_i, dLen_l, dLen_r, dLen_t, dLen_s, dIx_l, dIx_r, dIx_t, dList_l, dList_r, dList_t, dTuple_l, dTuple_t, dDispL_e, dDispT_e, dIsN_n, dNotN_n, dIsN_bool, dNotN_bool, dIsN_int, dNotN_int, dIsN_str, dNotN_str, dIsN_lst, dNotN_lst, dIsN_tup, dNotN_tup, dIsi_non, dIsiT_non, dIsi_bool, dIsiT_bool, dIsi_int, dIsiT_int, dIsi_str, dIsiT_str, dIsi_lst, dIsiT_lst, dIsi_rol, dIsiT_rol, dIsi_tup, dIsiT_tup, mChain_e, kH1_e, kH2_e, kH3_t, kH3_f, kH4_e, mM1_e, kM1_e, kM2_e, kM3_e, mJs_n, mJs_c, kJ_e, dFmt_s, dNeg_i, dDivmod_e, dMax2_e, dMin2_e, dCut_l, dCut_r, dCut_t, dCut_s, dPop_e, fApp_e, List.getElem?_cons_zero, List.getElem?_cons_succ, List.set_cons_zero, List.set_cons_succ, Option.bind_some, Option.bind_none, Option.map_some, Option.map_none, List.map_cons, List.map_nil, List.length_cons, List.length_nil, List.replicate, List.cons_append, List.nil_append, List.set_set, if_true, if_false, ite_true, ite_false, reduceIte, Nat.reduceAdd, Nat.reduceSub, Nat.zero_add, Nat.add_zero, Bool.not_true, Bool.not_false, decide_true, decide_false, Bool.true_and, Bool.and_true, Bool.false_and, Bool.and_false, Bool.or_true, Bool.true_or, Bool.or_false, Bool.false_or, eq_self]
  · simp only [f_is_number, m_is_number, tyIs, num, b_ok, b_bad, b_ex, f_ok, f_bad, f_ex, n_nx, n_rt, n_bk, n_ct, n_ex, n_bad, l_nx, l_rt, l_bk, l_ct, l_ex, l_bad, sNx_e, sSeq_e, sBk_e, sCt_e, sRetN_e, sExp_e, kExp_e, sRet_e, kRet_e, sIf_e, kIf_t, kIf_f, sSet_e, kSet_e, svOf_t, svOf_f, sSetC_e, kCell_e, sAsg_e, kG1_e, oF_s, oF_n, gN_e, gT_e, gsNil_e, gsCons_e, sPar_e, kPar1_e, kPar2_e, sPar3_e, kPr1_e, kPr2_e, kPr3_e, sPut_e, kPut1_e, kPut2_e, isLst_l, kPut_e, kPt_e, kPu_e, plGet_e, pG_o, pG_c, plS_e, pS_o, pS_f, plC_e, pC_o, pC_c, mFr_e, kFz_e, mVar_e, kVar_f, kVar_o, mMov_e, kMov_f, kMov_o, mBw_e, kBw_f, kBw_o, mCon_e, mOf_e, kOf_e, o2_e, m2_e, k2a_e, k2b_e, kDB_s, kDB_n, fl_e, m1_e, k1a_e, get_dv, get_bw, sv_f, sv_o, sv_n, de_cell, de_non, de_bool, de_int, de_str, de_fn, de_rol, de_lst, de_tup, de_dct, de_dtt, de_ins, mCB_e, kCB_e, getAll_n, getAll_c, g2_e, mVals_e, kVl_e, vals_n, vals_c, aNil_e, aCons_e, kC1_e, kC2_e, mT_e, kTb_e, tAnd_e, kAn_t, kAn_f, tOr_e, kOr_t, kOr_f, tNot_e, kNt_e, mTru_e, kTr_e, kO_s, dTru_b, mIf_e, kIfe_t, kIfe_f, mAnd_e, kAnd_t, kAnd_f, mOr_e, kOr2_t, kOr2_f, mNot_e, kNot2_e, kFr_o, mFn_e, kF1_e, kFn_e, mFnK_e, kK1_e, v2_e, kK2_e, mMut_e, kMu_e, mMut0_e, oM_e, kMut_e, pNone_e, pSome_e, kPs_e, mCut_e, kCt1_e, kCt2_e, oC3_e, kCt3_e, fM_e, endF_n, endF_r, dAdd_i, dAdd_s, dAdd_l, dAdd_t, dSub_i, dMul_i, dDiv_i, dMod_i, dPow_i, dLt_i, dLe_i, dGt_i, dGe_i, dLt_s, dEq_i, dEq_b, dEq_s, dNe_i, dNe_b, dNe_s, dInt_i, dAbs_i, dLen_l, dLen_r, dLen_t, dLen_s, dIx_l, dIx_r, dIx_t, dList_l, dList_r, dList_t, dTuple_l, dTuple_t, dDispL_e, dDispT_e, dIsN_n, dNotN_n, dIsN_bool, dNotN_bool, dIsN_int, dNotN_int, dIsN_str, dNotN_str, dIsN_lst, dNotN_lst, dIsN_tup, dNotN_tup, dIsi_non, dIsiT_non, dIsi_bool, dIsiT_bool, dIsi_int, dIsiT_int, dIsi_str, dIsiT_str, dIsi_lst, dIsiT_lst, dIsi_rol, dIsiT_rol, dIsi_tup, dIsiT_tup, mChain_e, kH1_e, kH2_e, kH3_t, kH3_f, kH4_e, mM1_e, kM1_e, kM2_e, kM3_e, mJs_n, mJs_c, kJ_e, dFmt_s, dNeg_i, dDivmod_e, dMax2_e, dMin2_e, dCut_l, dCut_r, dCut_t, dCut_s, dPop_e, fApp_e, List.getElem?_cons_zero, List.getElem?_cons_succ, List.set_cons_zero, List.set_cons_succ, Option.bind_some, Option.bind_none, Option.map_some, Option.map_none, List.map_cons, List.map_nil, List.length_cons, List.length_nil, List.replicate, List.cons_append, List.nil_append, List.set_set, if_true, if_false, ite_true, ite_false, reduceIte, Nat.reduceAdd, Nat.reduceSub, Nat.zero_add, Nat.add_zero, Bool.not_true, Bool.not_false, decide_true, decide_false, Bool.true_and, Bool.and_true, Bool.false_and, Bool.and_false, Bool.or_true, Bool.true_or, Bool.or_false, Bool.false_or, eq_self]
theorem whole_ok {d : EV.D} {c : CL} (h : Nu d) : f__law_whole [d] c = .ok (.bool (match d with | .int _ => true | _ => false), false) [] c := by
  rcases h with rfl | ⟨b, rfl⟩ | ⟨i, rfl⟩ | ⟨x, rfl⟩ | ⟨l, rfl⟩ | ⟨l, rfl⟩ <;> simp only [f__law_whole, m__law_whole, tyIs, b_ok, b_bad, b_ex, f_ok, f_bad, f_ex, n_nx, n_rt, n_bk, n_ct, n_ex, n_bad, l_nx, l_rt, l_bk, l_ct, l_ex, l_bad, sNx_e, sSeq_e, sBk_e, sCt_e, sRetN_e, sExp_e, kExp_e, sRet_e, kRet_e, sIf_e, kIf_t, kIf_f, sSet_e, kSet_e, svOf_t, svOf_f, sSetC_e, kCell_e, sAsg_e, kG1_e, oF_s, oF_n, gN_e, gT_e, gsNil_e, gsCons_e, sPar_e, kPar1_e, kPar2_e, sPar3_e, kPr1_e, kPr2_e, kPr3_e, sPut_e, kPut1_e, kPut2_e, isLst_l, kPut_e, kPt_e, kPu_e, plGet_e, pG_o, pG_c, plS_e, pS_o, pS_f, plC_e, pC_o, pC_c, mFr_e, kFz_e, mVar_e, kVar_f, kVar_o, mMov_e, kMov_f, kMov_o, mBw_e, kBw_f, kBw_o, mCon_e, mOf_e, kOf_e, o2_e, m2_e, k2a_e, k2b_e, kDB_s, kDB_n, fl_e, m1_e, k1a_e, get_dv, get_bw, sv_f, sv_o, sv_n, de_cell, de_non, de_bool, de_int, de_str, de_fn, de_rol, de_lst, de_tup, de_dct, de_dtt, de_ins, mCB_e, kCB_e, getAll_n, getAll_c, g2_e, mVals_e, kVl_e, vals_n, vals_c, aNil_e, aCons_e, kC1_e, kC2_e, mT_e, kTb_e, tAnd_e, kAn_t, kAn_f, tOr_e, kOr_t, kOr_f, tNot_e, kNt_e, mTru_e, kTr_e, kO_s, dTru_b, mIf_e, kIfe_t, kIfe_f, mAnd_e, kAnd_t, kAnd_f, mOr_e, kOr2_t, kOr2_f, mNot_e, kNot2_e, kFr_o, mFn_e, kF1_e, kFn_e, mFnK_e, kK1_e, v2_e, kK2_e, mMut_e, kMu_e, mMut0_e, oM_e, kMut_e, pNone_e, pSome_e, kPs_e, mCut_e, kCt1_e, kCt2_e, oC3_e, kCt3_e, fM_e, endF_n, endF_r, dAdd_i, dAdd_s, dAdd_l, dAdd_t, dSub_i, dMul_i, dDiv_i, dMod_i, dPow_i, dLt_i, dLe_i, dGt_i, dGe_i, dLt_s, dEq_i, dEq_b, dEq_s, dNe_i, dNe_b, dNe_s, dInt_i, dAbs_i, dLen_l, dLen_r, dLen_t, dLen_s, dIx_l, dIx_r, dIx_t, dList_l, dList_r, dList_t, dTuple_l, dTuple_t, dDispL_e, dDispT_e, dIsN_n, dNotN_n, dIsN_bool, dNotN_bool, dIsN_int, dNotN_int, dIsN_str, dNotN_str, dIsN_lst, dNotN_lst, dIsN_tup, dNotN_tup, dIsi_non, dIsiT_non, dIsi_bool, dIsiT_bool, dIsi_int, dIsiT_int, dIsi_str, dIsiT_str, dIsi_lst, dIsiT_lst, dIsi_rol, dIsiT_rol, dIsi_tup, dIsiT_tup, mChain_e, kH1_e, kH2_e, kH3_t, kH3_f, kH4_e, mM1_e, kM1_e, kM2_e, kM3_e, mJs_n, mJs_c, kJ_e, dFmt_s, dNeg_i, dDivmod_e, dMax2_e, dMin2_e, dCut_l, dCut_r, dCut_t, dCut_s, dPop_e, fApp_e, List.getElem?_cons_zero, List.getElem?_cons_succ, List.set_cons_zero, List.set_cons_succ, Option.bind_some, Option.bind_none, Option.map_some, Option.map_none, List.map_cons, List.map_nil, List.length_cons, List.length_nil, List.replicate, List.cons_append, List.nil_append, List.set_set, if_true, if_false, ite_true, ite_false, reduceIte, Nat.reduceAdd, Nat.reduceSub, Nat.zero_add, Nat.add_zero, Bool.not_true, Bool.not_false, decide_true, decide_false, Bool.true_and, Bool.and_true, Bool.false_and, Bool.and_false, Bool.or_true, Bool.true_or, Bool.or_false, Bool.false_or, eq_self]
theorem due_ok {d : EV.D} {lo hi : Int} {c : CL} {x4 : SV} (h : Nu d) :
    mAnd (mFn 1 f__law_whole (aCons (mOf (mVar 3)) aNil)) (mAnd (m2 dLe (mBw 1) (mBw 3)) (m2 dLe (mBw 3) (mBw 2))) [.fz (.cell 0), .fz (.int lo), .fz (.int hi), .fz d, x4] c = .ok (.bool (num d lo hi), false) [.fz (.cell 0), .fz (.int lo), .fz (.int hi), .fz d, x4] c := by
  have w := whole_ok (c := c) h
  rcases h with rfl | ⟨b, rfl⟩ | ⟨i, rfl⟩ | ⟨x, rfl⟩ | ⟨l, rfl⟩ | ⟨l, rfl⟩
  · simp only [w, num, b_ok, b_bad, b_ex, f_ok, f_bad, f_ex, n_nx, n_rt, n_bk, n_ct, n_ex, n_bad, l_nx, l_rt, l_bk, l_ct, l_ex, l_bad, sNx_e, sSeq_e, sBk_e, sCt_e, sRetN_e, sExp_e, kExp_e, sRet_e, kRet_e, sIf_e, kIf_t, kIf_f, sSet_e, kSet_e, svOf_t, svOf_f, sSetC_e, kCell_e, sAsg_e, kG1_e, oF_s, oF_n, gN_e, gT_e, gsNil_e, gsCons_e, sPar_e, kPar1_e, kPar2_e, sPar3_e, kPr1_e, kPr2_e, kPr3_e, sPut_e, kPut1_e, kPut2_e, isLst_l, kPut_e, kPt_e, kPu_e, plGet_e, pG_o, pG_c, plS_e, pS_o, pS_f, plC_e, pC_o, pC_c, mFr_e, kFz_e, mVar_e, kVar_f, kVar_o, mMov_e, kMov_f, kMov_o, mBw_e, kBw_f, kBw_o, mCon_e, mOf_e, kOf_e, o2_e, m2_e, k2a_e, k2b_e, kDB_s, kDB_n, fl_e, m1_e, k1a_e, get_dv, get_bw, sv_f, sv_o, sv_n, de_cell, de_non, de_bool, de_int, de_str, de_fn, de_rol, de_lst, de_tup, de_dct, de_dtt, de_ins, mCB_e, kCB_e, getAll_n, getAll_c, g2_e, mVals_e, kVl_e, vals_n, vals_c, aNil_e, aCons_e, kC1_e, kC2_e, mT_e, kTb_e, tAnd_e, kAn_t, kAn_f, tOr_e, kOr_t, kOr_f, tNot_e, kNt_e, mTru_e, kTr_e, kO_s, dTru_b, mIf_e, kIfe_t, kIfe_f, mAnd_e, kAnd_t, kAnd_f, mOr_e, kOr2_t, kOr2_f, mNot_e, kNot2_e, kFr_o, mFn_e, kF1_e, kFn_e, mFnK_e, kK1_e, v2_e, kK2_e, mMut_e, kMu_e, mMut0_e, oM_e, kMut_e, pNone_e, pSome_e, kPs_e, mCut_e, kCt1_e, kCt2_e, oC3_e, kCt3_e, fM_e, endF_n, endF_r, dAdd_i, dAdd_s, dAdd_l, dAdd_t, dSub_i, dMul_i, dDiv_i, dMod_i, dPow_i, dLt_i, dLe_i, dGt_i, dGe_i, dLt_s, dEq_i, dEq_b, dEq_s, dNe_i, dNe_b, dNe_s, dInt_i, dAbs_i, dLen_l, dLen_r, dLen_t, dLen_s, dIx_l, dIx_r, dIx_t, dList_l, dList_r, dList_t, dTuple_l, dTuple_t, dDispL_e, dDispT_e, dIsN_n, dNotN_n, dIsN_bool, dNotN_bool, dIsN_int, dNotN_int, dIsN_str, dNotN_str, dIsN_lst, dNotN_lst, dIsN_tup, dNotN_tup, dIsi_non, dIsiT_non, dIsi_bool, dIsiT_bool, dIsi_int, dIsiT_int, dIsi_str, dIsiT_str, dIsi_lst, dIsiT_lst, dIsi_rol, dIsiT_rol, dIsi_tup, dIsiT_tup, mChain_e, kH1_e, kH2_e, kH3_t, kH3_f, kH4_e, mM1_e, kM1_e, kM2_e, kM3_e, mJs_n, mJs_c, kJ_e, dFmt_s, dNeg_i, dDivmod_e, dMax2_e, dMin2_e, dCut_l, dCut_r, dCut_t, dCut_s, dPop_e, fApp_e, List.getElem?_cons_zero, List.getElem?_cons_succ, List.set_cons_zero, List.set_cons_succ, Option.bind_some, Option.bind_none, Option.map_some, Option.map_none, List.map_cons, List.map_nil, List.length_cons, List.length_nil, List.replicate, List.cons_append, List.nil_append, List.set_set, if_true, if_false, ite_true, ite_false, reduceIte, Nat.reduceAdd, Nat.reduceSub, Nat.zero_add, Nat.add_zero, Bool.not_true, Bool.not_false, decide_true, decide_false, Bool.true_and, Bool.and_true, Bool.false_and, Bool.and_false, Bool.or_true, Bool.true_or, Bool.or_false, Bool.false_or, eq_self]
  · simp only [w, num, b_ok, b_bad, b_ex, f_ok, f_bad, f_ex, n_nx, n_rt, n_bk, n_ct, n_ex, n_bad, l_nx, l_rt, l_bk, l_ct, l_ex, l_bad, sNx_e, sSeq_e, sBk_e, sCt_e, sRetN_e, sExp_e, kExp_e, sRet_e, kRet_e, sIf_e, kIf_t, kIf_f, sSet_e, kSet_e, svOf_t, svOf_f, sSetC_e, kCell_e, sAsg_e, kG1_e, oF_s, oF_n, gN_e, gT_e, gsNil_e, gsCons_e, sPar_e, kPar1_e, kPar2_e, sPar3_e, kPr1_e, kPr2_e, kPr3_e, sPut_e, kPut1_e, kPut2_e, isLst_l, kPut_e, kPt_e, kPu_e, plGet_e, pG_o, pG_c, plS_e, pS_o, pS_f, plC_e, pC_o, pC_c, mFr_e, kFz_e, mVar_e, kVar_f, kVar_o, mMov_e, kMov_f, kMov_o, mBw_e, kBw_f, kBw_o, mCon_e, mOf_e, kOf_e, o2_e, m2_e, k2a_e, k2b_e, kDB_s, kDB_n, fl_e, m1_e, k1a_e, get_dv, get_bw, sv_f, sv_o, sv_n, de_cell, de_non, de_bool, de_int, de_str, de_fn, de_rol, de_lst, de_tup, de_dct, de_dtt, de_ins, mCB_e, kCB_e, getAll_n, getAll_c, g2_e, mVals_e, kVl_e, vals_n, vals_c, aNil_e, aCons_e, kC1_e, kC2_e, mT_e, kTb_e, tAnd_e, kAn_t, kAn_f, tOr_e, kOr_t, kOr_f, tNot_e, kNt_e, mTru_e, kTr_e, kO_s, dTru_b, mIf_e, kIfe_t, kIfe_f, mAnd_e, kAnd_t, kAnd_f, mOr_e, kOr2_t, kOr2_f, mNot_e, kNot2_e, kFr_o, mFn_e, kF1_e, kFn_e, mFnK_e, kK1_e, v2_e, kK2_e, mMut_e, kMu_e, mMut0_e, oM_e, kMut_e, pNone_e, pSome_e, kPs_e, mCut_e, kCt1_e, kCt2_e, oC3_e, kCt3_e, fM_e, endF_n, endF_r, dAdd_i, dAdd_s, dAdd_l, dAdd_t, dSub_i, dMul_i, dDiv_i, dMod_i, dPow_i, dLt_i, dLe_i, dGt_i, dGe_i, dLt_s, dEq_i, dEq_b, dEq_s, dNe_i, dNe_b, dNe_s, dInt_i, dAbs_i, dLen_l, dLen_r, dLen_t, dLen_s, dIx_l, dIx_r, dIx_t, dList_l, dList_r, dList_t, dTuple_l, dTuple_t, dDispL_e, dDispT_e, dIsN_n, dNotN_n, dIsN_bool, dNotN_bool, dIsN_int, dNotN_int, dIsN_str, dNotN_str, dIsN_lst, dNotN_lst, dIsN_tup, dNotN_tup, dIsi_non, dIsiT_non, dIsi_bool, dIsiT_bool, dIsi_int, dIsiT_int, dIsi_str, dIsiT_str, dIsi_lst, dIsiT_lst, dIsi_rol, dIsiT_rol, dIsi_tup, dIsiT_tup, mChain_e, kH1_e, kH2_e, kH3_t, kH3_f, kH4_e, mM1_e, kM1_e, kM2_e, kM3_e, mJs_n, mJs_c, kJ_e, dFmt_s, dNeg_i, dDivmod_e, dMax2_e, dMin2_e, dCut_l, dCut_r, dCut_t, dCut_s, dPop_e, fApp_e, List.getElem?_cons_zero, List.getElem?_cons_succ, List.set_cons_zero, List.set_cons_succ, Option.bind_some, Option.bind_none, Option.map_some, Option.map_none, List.map_cons, List.map_nil, List.length_cons, List.length_nil, List.replicate, List.cons_append, List.nil_append, List.set_set, if_true, if_false, ite_true, ite_false, reduceIte, Nat.reduceAdd, Nat.reduceSub, Nat.zero_add, Nat.add_zero, Bool.not_true, Bool.not_false, decide_true, decide_false, Bool.true_and, Bool.and_true, Bool.false_and, Bool.and_false, Bool.or_true, Bool.true_or, Bool.or_false, Bool.false_or, eq_self]
  · by_cases h1 : lo ≤ i
    · have e1 : (lo ≤ i) = True := eq_true h1
      simp only [w, num, e1, b_ok, b_bad, b_ex, f_ok, f_bad, f_ex, n_nx, n_rt, n_bk, n_ct, n_ex, n_bad, l_nx, l_rt, l_bk, l_ct, l_ex, l_bad, sNx_e, sSeq_e, sBk_e, sCt_e, sRetN_e, sExp_e, kExp_e, sRet_e, kRet_e, sIf_e, kIf_t, kIf_f, sSet_e, kSet_e, svOf_t, svOf_f, sSetC_e, kCell_e, sAsg_e, kG1_e, oF_s, oF_n, gN_e, gT_e, gsNil_e, gsCons_e, sPar_e, kPar1_e, kPar2_e, sPar3_e, kPr1_e, kPr2_e, kPr3_e, sPut_e, kPut1_e, kPut2_e, isLst_l, kPut_e, kPt_e, kPu_e, plGet_e, pG_o, pG_c, plS_e, pS_o, pS_f, plC_e, pC_o, pC_c, mFr_e, kFz_e, mVar_e, kVar_f, kVar_o, mMov_e, kMov_f, kMov_o, mBw_e, kBw_f, kBw_o, mCon_e, mOf_e, kOf_e, o2_e, m2_e, k2a_e, k2b_e, kDB_s, kDB_n, fl_e, m1_e, k1a_e, get_dv, get_bw, sv_f, sv_o, sv_n, de_cell, de_non, de_bool, de_int, de_str, de_fn, de_rol, de_lst, de_tup, de_dct, de_dtt, de_ins, mCB_e, kCB_e, getAll_n, getAll_c, g2_e, mVals_e, kVl_e, vals_n, vals_c, aNil_e, aCons_e, kC1_e, kC2_e, mT_e, kTb_e, tAnd_e, kAn_t, kAn_f, tOr_e, kOr_t, kOr_f, tNot_e, kNt_e, mTru_e, kTr_e, kO_s, dTru_b, mIf_e, kIfe_t, kIfe_f, mAnd_e, kAnd_t, kAnd_f, mOr_e, kOr2_t, kOr2_f, mNot_e, kNot2_e, kFr_o, mFn_e, kF1_e, kFn_e, mFnK_e, kK1_e, v2_e, kK2_e, mMut_e, kMu_e, mMut0_e, oM_e, kMut_e, pNone_e, pSome_e, kPs_e, mCut_e, kCt1_e, kCt2_e, oC3_e, kCt3_e, fM_e, endF_n, endF_r, dAdd_i, dAdd_s, dAdd_l, dAdd_t, dSub_i, dMul_i, dDiv_i, dMod_i, dPow_i, dLt_i, dLe_i, dGt_i, dGe_i, dLt_s, dEq_i, dEq_b, dEq_s, dNe_i, dNe_b, dNe_s, dInt_i, dAbs_i, dLen_l, dLen_r, dLen_t, dLen_s, dIx_l, dIx_r, dIx_t, dList_l, dList_r, dList_t, dTuple_l, dTuple_t, dDispL_e, dDispT_e, dIsN_n, dNotN_n, dIsN_bool, dNotN_bool, dIsN_int, dNotN_int, dIsN_str, dNotN_str, dIsN_lst, dNotN_lst, dIsN_tup, dNotN_tup, dIsi_non, dIsiT_non, dIsi_bool, dIsiT_bool, dIsi_int, dIsiT_int, dIsi_str, dIsiT_str, dIsi_lst, dIsiT_lst, dIsi_rol, dIsiT_rol, dIsi_tup, dIsiT_tup, mChain_e, kH1_e, kH2_e, kH3_t, kH3_f, kH4_e, mM1_e, kM1_e, kM2_e, kM3_e, mJs_n, mJs_c, kJ_e, dFmt_s, dNeg_i, dDivmod_e, dMax2_e, dMin2_e, dCut_l, dCut_r, dCut_t, dCut_s, dPop_e, fApp_e, List.getElem?_cons_zero, List.getElem?_cons_succ, List.set_cons_zero, List.set_cons_succ, Option.bind_some, Option.bind_none, Option.map_some, Option.map_none, List.map_cons, List.map_nil, List.length_cons, List.length_nil, List.replicate, List.cons_append, List.nil_append, List.set_set, if_true, if_false, ite_true, ite_false, reduceIte, Nat.reduceAdd, Nat.reduceSub, Nat.zero_add, Nat.add_zero, Bool.not_true, Bool.not_false, decide_true, decide_false, Bool.true_and, Bool.and_true, Bool.false_and, Bool.and_false, Bool.or_true, Bool.true_or, Bool.or_false, Bool.false_or, eq_self]
    · have e1 : (lo ≤ i) = False := eq_false h1
      simp only [w, num, e1, b_ok, b_bad, b_ex, f_ok, f_bad, f_ex, n_nx, n_rt, n_bk, n_ct, n_ex, n_bad, l_nx, l_rt, l_bk, l_ct, l_ex, l_bad, sNx_e, sSeq_e, sBk_e, sCt_e, sRetN_e, sExp_e, kExp_e, sRet_e, kRet_e, sIf_e, kIf_t, kIf_f, sSet_e, kSet_e, svOf_t, svOf_f, sSetC_e, kCell_e, sAsg_e, kG1_e, oF_s, oF_n, gN_e, gT_e, gsNil_e, gsCons_e, sPar_e, kPar1_e, kPar2_e, sPar3_e, kPr1_e, kPr2_e, kPr3_e, sPut_e, kPut1_e, kPut2_e, isLst_l, kPut_e, kPt_e, kPu_e, plGet_e, pG_o, pG_c, plS_e, pS_o, pS_f, plC_e, pC_o, pC_c, mFr_e, kFz_e, mVar_e, kVar_f, kVar_o, mMov_e, kMov_f, kMov_o, mBw_e, kBw_f, kBw_o, mCon_e, mOf_e, kOf_e, o2_e, m2_e, k2a_e, k2b_e, kDB_s, kDB_n, fl_e, m1_e, k1a_e, get_dv, get_bw, sv_f, sv_o, sv_n, de_cell, de_non, de_bool, de_int, de_str, de_fn, de_rol, de_lst, de_tup, de_dct, de_dtt, de_ins, mCB_e, kCB_e, getAll_n, getAll_c, g2_e, mVals_e, kVl_e, vals_n, vals_c, aNil_e, aCons_e, kC1_e, kC2_e, mT_e, kTb_e, tAnd_e, kAn_t, kAn_f, tOr_e, kOr_t, kOr_f, tNot_e, kNt_e, mTru_e, kTr_e, kO_s, dTru_b, mIf_e, kIfe_t, kIfe_f, mAnd_e, kAnd_t, kAnd_f, mOr_e, kOr2_t, kOr2_f, mNot_e, kNot2_e, kFr_o, mFn_e, kF1_e, kFn_e, mFnK_e, kK1_e, v2_e, kK2_e, mMut_e, kMu_e, mMut0_e, oM_e, kMut_e, pNone_e, pSome_e, kPs_e, mCut_e, kCt1_e, kCt2_e, oC3_e, kCt3_e, fM_e, endF_n, endF_r, dAdd_i, dAdd_s, dAdd_l, dAdd_t, dSub_i, dMul_i, dDiv_i, dMod_i, dPow_i, dLt_i, dLe_i, dGt_i, dGe_i, dLt_s, dEq_i, dEq_b, dEq_s, dNe_i, dNe_b, dNe_s, dInt_i, dAbs_i, dLen_l, dLen_r, dLen_t, dLen_s, dIx_l, dIx_r, dIx_t, dList_l, dList_r, dList_t, dTuple_l, dTuple_t, dDispL_e, dDispT_e, dIsN_n, dNotN_n, dIsN_bool, dNotN_bool, dIsN_int, dNotN_int, dIsN_str, dNotN_str, dIsN_lst, dNotN_lst, dIsN_tup, dNotN_tup, dIsi_non, dIsiT_non, dIsi_bool, dIsiT_bool, dIsi_int, dIsiT_int, dIsi_str, dIsiT_str, dIsi_lst, dIsiT_lst, dIsi_rol, dIsiT_rol, dIsi_tup, dIsiT_tup, mChain_e, kH1_e, kH2_e, kH3_t, kH3_f, kH4_e, mM1_e, kM1_e, kM2_e, kM3_e, mJs_n, mJs_c, kJ_e, dFmt_s, dNeg_i, dDivmod_e, dMax2_e, dMin2_e, dCut_l, dCut_r, dCut_t, dCut_s, dPop_e, fApp_e, List.getElem?_cons_zero, List.getElem?_cons_succ, List.set_cons_zero, List.set_cons_succ, Option.bind_some, Option.bind_none, Option.map_some, Option.map_none, List.map_cons, List.map_nil, List.length_cons, List.length_nil, List.replicate, List.cons_append, List.nil_append, List.set_set, if_true, if_false, ite_true, ite_false, reduceIte, Nat.reduceAdd, Nat.reduceSub, Nat.zero_add, Nat.add_zero, Bool.not_true, Bool.not_false, decide_true, decide_false, Bool.true_and, Bool.and_true, Bool.false_and, Bool.and_false, Bool.or_true, Bool.true_or, Bool.or_false, Bool.false_or, eq_self]
  · simp only [w, num, b_ok, b_bad, b_ex, f_ok, f_bad, f_ex, n_nx, n_rt, n_bk, n_ct, n_ex, n_bad, l_nx, l_rt, l_bk, l_ct, l_ex, l_bad, sNx_e, sSeq_e, sBk_e, sCt_e, sRetN_e, sExp_e, kExp_e, sRet_e, kRet_e, sIf_e, kIf_t, kIf_f, sSet_e, kSet_e, svOf_t, svOf_f, sSetC_e, kCell_e, sAsg_e, kG1_e, oF_s, oF_n, gN_e, gT_e, gsNil_e, gsCons_e, sPar_e, kPar1_e, kPar2_e, sPar3_e, kPr1_e, kPr2_e, kPr3_e, sPut_e, kPut1_e, kPut2_e, isLst_l, kPut_e, kPt_e, kPu_e, plGet_e, pG_o, pG_c, plS_e, pS_o, pS_f, plC_e, pC_o, pC_c, mFr_e, kFz_e, mVar_e, kVar_f, kVar_o, mMov_e, kMov_f, kMov_o, mBw_e, kBw_f, kBw_o, mCon_e, mOf_e, kOf_e, o2_e, m2_e, k2a_e, k2b_e, kDB_s, kDB_n, fl_e, m1_e, k1a_e, get_dv, get_bw, sv_f, sv_o, sv_n, de_cell, de_non, de_bool, de_int, de_str, de_fn, de_rol, de_lst, de_tup, de_dct, de_dtt, de_ins, mCB_e, kCB_e, getAll_n, getAll_c, g2_e, mVals_e, kVl_e, vals_n, vals_c, aNil_e, aCons_e, kC1_e, kC2_e, mT_e, kTb_e, tAnd_e, kAn_t, kAn_f, tOr_e, kOr_t, kOr_f, tNot_e, kNt_e, mTru_e, kTr_e, kO_s, dTru_b, mIf_e, kIfe_t, kIfe_f, mAnd_e, kAnd_t, kAnd_f, mOr_e, kOr2_t, kOr2_f, mNot_e, kNot2_e, kFr_o, mFn_e, kF1_e, kFn_e, mFnK_e, kK1_e, v2_e, kK2_e, mMut_e, kMu_e, mMut0_e, oM_e, kMut_e, pNone_e, pSome_e, kPs_e, mCut_e, kCt1_e, kCt2_e, oC3_e, kCt3_e, fM_e, endF_n, endF_r, dAdd_i, dAdd_s, dAdd_l, dAdd_t, dSub_i, dMul_i, dDiv_i, dMod_i, dPow_i, dLt_i, dLe_i, dGt_i, dGe_i, dLt_s, dEq_i, dEq_b, dEq_s, dNe_i, dNe_b, dNe_s, dInt_i, dAbs_i, dLen_l, dLen_r, dLen_t, dLen_s, dIx_l, dIx_r, dIx_t, dList_l, dList_r, dList_t, dTuple_l, dTuple_t, dDispL_e, dDispT_e, dIsN_n, dNotN_n, dIsN_bool, dNotN_bool, dIsN_int, dNotN_int, dIsN_str, dNotN_str, dIsN_lst, dNotN_lst, dIsN_tup, dNotN_tup, dIsi_non, dIsiT_non, dIsi_bool, dIsiT_bool, dIsi_int, dIsiT_int, dIsi_str, dIsiT_str, dIsi_lst, dIsiT_lst, dIsi_rol, dIsiT_rol, dIsi_tup, dIsiT_tup, mChain_e, kH1_e, kH2_e, kH3_t, kH3_f, kH4_e, mM1_e, kM1_e, kM2_e, kM3_e, mJs_n, mJs_c, kJ_e, dFmt_s, dNeg_i, dDivmod_e, dMax2_e, dMin2_e, dCut_l, dCut_r, dCut_t, dCut_s, dPop_e, fApp_e, List.getElem?_cons_zero, List.getElem?_cons_succ, List.set_cons_zero, List.set_cons_succ, Option.bind_some, Option.bind_none, Option.map_some, Option.map_none, List.map_cons, List.map_nil, List.length_cons, List.length_nil, List.replicate, List.cons_append, List.nil_append, List.set_set, if_true, if_false, ite_true, ite_false, reduceIte, Nat.reduceAdd, Nat.reduceSub, Nat.zero_add, Nat.add_zero, Bool.not_true, Bool.not_false, decide_true, decide_false, Bool.true_and, Bool.and_true, Bool.false_and, Bool.and_false, Bool.or_true, Bool.true_or, Bool.or_false, Bool.false_or, eq_self]
  · simp only [w, num, b_ok, b_bad, b_ex, f_ok, f_bad, f_ex, n_nx, n_rt, n_bk, n_ct, n_ex, n_bad, l_nx, l_rt, l_bk, l_ct, l_ex, l_bad, sNx_e, sSeq_e, sBk_e, sCt_e, sRetN_e, sExp_e, kExp_e, sRet_e, kRet_e, sIf_e, kIf_t, kIf_f, sSet_e, kSet_e, svOf_t, svOf_f, sSetC_e, kCell_e, sAsg_e, kG1_e, oF_s, oF_n, gN_e, gT_e, gsNil_e, gsCons_e, sPar_e, kPar1_e, kPar2_e, sPar3_e, kPr1_e, kPr2_e, kPr3_e, sPut_e, kPut1_e, kPut2_e, isLst_l, kPut_e, kPt_e, kPu_e, plGet_e, pG_o, pG_c, plS_e, pS_o, pS_f, plC_e, pC_o, pC_c, mFr_e, kFz_e, mVar_e, kVar_f, kVar_o, mMov_e, kMov_f, kMov_o, mBw_e, kBw_f, kBw_o, mCon_e, mOf_e, kOf_e, o2_e, m2_e, k2a_e, k2b_e, kDB_s, kDB_n, fl_e, m1_e, k1a_e, get_dv, get_bw, sv_f, sv_o, sv_n, de_cell, de_non, de_bool, de_int, de_str, de_fn, de_rol, de_lst, de_tup, de_dct, de_dtt, de_ins, mCB_e, kCB_e, getAll_n, getAll_c, g2_e, mVals_e, kVl_e, vals_n, vals_c, aNil_e, aCons_e, kC1_e, kC2_e, mT_e, kTb_e, tAnd_e, kAn_t, kAn_f, tOr_e, kOr_t, kOr_f, tNot_e, kNt_e, mTru_e, kTr_e, kO_s, dTru_b, mIf_e, kIfe_t, kIfe_f, mAnd_e, kAnd_t, kAnd_f, mOr_e, kOr2_t, kOr2_f, mNot_e, kNot2_e, kFr_o, mFn_e, kF1_e, kFn_e, mFnK_e, kK1_e, v2_e, kK2_e, mMut_e, kMu_e, mMut0_e, oM_e, kMut_e, pNone_e, pSome_e, kPs_e, mCut_e, kCt1_e, kCt2_e, oC3_e, kCt3_e, fM_e, endF_n, endF_r, dAdd_i, dAdd_s, dAdd_l, dAdd_t, dSub_i, dMul_i, dDiv_i, dMod_i, dPow_i, dLt_i, dLe_i, dGt_i, dGe_i, dLt_s, dEq_i, dEq_b, dEq_s, dNe_i, dNe_b, dNe_s, dInt_i, dAbs_i, dLen_l, dLen_r, dLen_t, dLen_s, dIx_l, dIx_r, dIx_t, dList_l, dList_r, dList_t, dTuple_l, dTuple_t, dDispL_e, dDispT_e, dIsN_n, dNotN_n, dIsN_bool, dNotN_bool, dIsN_int, dNotN_int, dIsN_str, dNotN_str, dIsN_lst, dNotN_lst, dIsN_tup, dNotN_tup, dIsi_non, dIsiT_non, dIsi_bool, dIsiT_bool, dIsi_int, dIsiT_int, dIsi_str, dIsiT_str, dIsi_lst, dIsiT_lst, dIsi_rol, dIsiT_rol, dIsi_tup, dIsiT_tup, mChain_e, kH1_e, kH2_e, kH3_t, kH3_f, kH4_e, mM1_e, kM1_e, kM2_e, kM3_e, mJs_n, mJs_c, kJ_e, dFmt_s, dNeg_i, dDivmod_e, dMax2_e, dMin2_e, dCut_l, dCut_r, dCut_t, dCut_s, dPop_e, fApp_e, List.getElem?_cons_zero, List.getElem?_cons_succ, List.set_cons_zero, List.set_cons_succ, Option.bind_some, Option.bind_none, Option.map_some, Option.map_none, List.map_cons, List.map_nil, List.length_cons, List.length_nil, List.replicate, List.cons_append, List.nil_append, List.set_set, if_true, if_false, ite_true, ite_false, reduceIte, Nat.reduceAdd, Nat.reduceSub, Nat.zero_add, Nat.add_zero, Bool.not_true, Bool.not_false, decide_true, decide_false, Bool.true_and, Bool.and_true, Bool.false_and, Bool.and_false, Bool.or_true, Bool.true_or, Bool.or_false, Bool.false_or, eq_self]
  · simp only [w, num, b_ok, b_bad, b_ex, f_ok, f_bad, f_ex, n_nx, n_rt, n_bk, n_ct, n_ex, n_bad, l_nx, l_rt, l_bk, l_ct, l_ex, l_bad, sNx_e, sSeq_e, sBk_e, sCt_e, sRetN_e, sExp_e, kExp_e, sRet_e, kRet_e, sIf_e, kIf_t, kIf_f, sSet_e, kSet_e, svOf_t, svOf_f, sSetC_e, kCell_e, sAsg_e, kG1_e, oF_s, oF_n, gN_e, gT_e, gsNil_e, gsCons_e, sPar_e, kPar1_e, kPar2_e, sPar3_e, kPr1_e, kPr2_e, kPr3_e, sPut_e, kPut1_e, kPut2_e, isLst_l, kPut_e, kPt_e, kPu_e, plGet_e, pG_o, pG_c, plS_e, pS_o, pS_f, plC_e, pC_o, pC_c, mFr_e, kFz_e, mVar_e, kVar_f, kVar_o, mMov_e, kMov_f, kMov_o, mBw_e, kBw_f, kBw_o, mCon_e, mOf_e, kOf_e, o2_e, m2_e, k2a_e, k2b_e, kDB_s, kDB_n, fl_e, m1_e, k1a_e, get_dv, get_bw, sv_f, sv_o, sv_n, de_cell, de_non, de_bool, de_int, de_str, de_fn, de_rol, de_lst, de_tup, de_dct, de_dtt, de_ins, mCB_e, kCB_e, getAll_n, getAll_c, g2_e, mVals_e, kVl_e, vals_n, vals_c, aNil_e, aCons_e, kC1_e, kC2_e, mT_e, kTb_e, tAnd_e, kAn_t, kAn_f, tOr_e, kOr_t, kOr_f, tNot_e, kNt_e, mTru_e, kTr_e, kO_s, dTru_b, mIf_e, kIfe_t, kIfe_f, mAnd_e, kAnd_t, kAnd_f, mOr_e, kOr2_t, kOr2_f, mNot_e, kNot2_e, kFr_o, mFn_e, kF1_e, kFn_e, mFnK_e, kK1_e, v2_e, kK2_e, mMut_e, kMu_e, mMut0_e, oM_e, kMut_e, pNone_e, pSome_e, kPs_e, mCut_e, kCt1_e, kCt2_e, oC3_e, kCt3_e, fM_e, endF_n, endF_r, dAdd_i, dAdd_s, dAdd_l, dAdd_t, dSub_i, dMul_i, dDiv_i, dMod_i, dPow_i, dLt_i, dLe_i, dGt_i, dGe_i, dLt_s, dEq_i, dEq_b, dEq_s, dNe_i, dNe_b, dNe_s, dInt_i, dAbs_i, dLen_l, dLen_r, dLen_t, dLen_s, dIx_l, dIx_r, dIx_t, dList_l, dList_r, dList_t, dTuple_l, dTuple_t, dDispL_e, dDispT_e, dIsN_n, dNotN_n, dIsN_bool, dNotN_bool, dIsN_int, dNotN_int, dIsN_str, dNotN_str, dIsN_lst, dNotN_lst, dIsN_tup, dNotN_tup, dIsi_non, dIsiT_non, dIsi_bool, dIsiT_bool, dIsi_int, dIsiT_int, dIsi_str, dIsiT_str, dIsi_lst, dIsiT_lst, dIsi_rol, dIsiT_rol, dIsi_tup, dIsiT_tup, mChain_e, kH1_e, kH2_e, kH3_t, kH3_f, kH4_e, mM1_e, kM1_e, kM2_e, kM3_e, mJs_n, mJs_c, kJ_e, dFmt_s, dNeg_i, dDivmod_e, dMax2_e, dMin2_e, dCut_l, dCut_r, dCut_t, dCut_s, dPop_e, fApp_e, List.getElem?_cons_zero, List.getElem?_cons_succ, List.set_cons_zero, List.set_cons_succ, Option.bind_some, Option.bind_none, Option.map_some, Option.map_none, List.map_cons, List.map_nil, List.length_cons, List.length_nil, List.replicate, List.cons_append, List.nil_append, List.set_set, if_true, if_false, ite_true, ite_false, reduceIte, Nat.reduceAdd, Nat.reduceSub, Nat.zero_add, Nat.add_zero, Bool.not_true, Bool.not_false, decide_true, decide_false, Bool.true_and, Bool.and_true, Bool.false_and, Bool.and_false, Bool.or_true, Bool.true_or, Bool.or_false, Bool.false_or, eq_self]
theorem dStr_e {i : Int} (h : i.natAbs.log2 < 1920) : dStr [.int i] = some (.str (toString i), false) := by
  show (if i.natAbs.log2 < 1920 then fl (.str (toString i)) else none) = _
  rw [if_pos h]
  rfl
theorem log_small {i : Int} (h : -1000000000 ≤ i ∧ i ≤ 1000000000) : i.natAbs.log2 < 1920 := by
  by_cases h0 : i.natAbs = 0
  · rw [h0]; decide
  · have h1 : i.natAbs < 2 ^ 40 := by omega
    have := (Nat.log2_lt h0).mpr h1
    omega
theorem numbers_ok {c : CL} (B : Bg c) : ∃ c', f__law_numbers [.cell 0] c = .ok (.bool true, false) [] c' ∧ Bg c' := by
  obtain ⟨j, c1, h1, b1, l1⟩ := draw_bg B (sides := 1000) (by decide) (by decide)
  obtain ⟨x, c2, h2, b2, mm2⟩ := of_l (xs := [.int 0, .int 1, .int (-1), .int (-999999999), .int ((j : Int) - 500)]) b1 (by simp) (by simp)
  have hx : ∃ lo : Int, x = .int lo ∧ -999999999 ≤ lo ∧ lo ≤ 1000 := by
    simp only [List.mem_cons, List.not_mem_nil, or_false] at mm2
    rcases mm2 with rfl | rfl | rfl | rfl | rfl
    · exact ⟨_, rfl, by decide, by decide⟩
    · exact ⟨_, rfl, by decide, by decide⟩
    · exact ⟨_, rfl, by decide, by decide⟩
    · exact ⟨_, rfl, by decide, by decide⟩
    · exact ⟨_, rfl, by omega, by omega⟩
  obtain ⟨lo, rfl, hlo⟩ := hx
  obtain ⟨j2, c3, h3, b3, l3⟩ := draw_bg b2 (sides := 1000) (by decide) (by decide)
  have z5 : ((5 : Nat) ≤ sizeLine) = True := lineN (by decide)
  have z0 : ((0 : Nat) ≤ sizeLine) = True := lineN (by decide)
  have z1 : ((1 : Nat) ≤ sizeLine) = True := lineN (by decide)
  have z2 : ((2 : Nat) ≤ sizeLine) = True := lineN (by decide)
  have z12 : ((12 : Nat) ≤ sizeLine) = True := lineN (by decide)
  have hi2 : ∃ v : Int, (∀ c, mIf (mT (m2 dGt (mBw 1) (mOf (m1 dNeg (mOf (mCon (.int 999999999))))))) (m2 dSub (mBw 1) (mOf (mCon (.int 1)))) (mCon (.int 0)) [.fz (.cell 0), .fz (.int lo), .no, .no, .no] c = .ok (.int v, false) [.fz (.cell 0), .fz (.int lo), .no, .no, .no] c) := by
    by_cases g : (-999999999 : Int) < lo
    · have e : ((-999999999 : Int) < lo) = True := eq_true g
      exact ⟨lo - 1, fun c => by simp only [e, b_ok, b_bad, b_ex, f_ok, f_bad, f_ex, n_nx, n_rt, n_bk, n_ct, n_ex, n_bad, l_nx, l_rt, l_bk, l_ct, l_ex, l_bad, sNx_e, sSeq_e, sBk_e, sCt_e, sRetN_e, sExp_e, kExp_e, sRet_e, kRet_e, sIf_e, kIf_t, kIf_f, sSet_e, kSet_e, svOf_t, svOf_f, sSetC_e, kCell_e, sAsg_e, kG1_e, oF_s, oF_n, gN_e, gT_e, gsNil_e, gsCons_e, sPar_e, kPar1_e, kPar2_e, sPar3_e, kPr1_e, kPr2_e, kPr3_e, sPut_e, kPut1_e, kPut2_e, isLst_l, kPut_e, kPt_e, kPu_e, plGet_e, pG_o, pG_c, plS_e, pS_o, pS_f, plC_e, pC_o, pC_c, mFr_e, kFz_e, mVar_e, kVar_f, kVar_o, mMov_e, kMov_f, kMov_o, mBw_e, kBw_f, kBw_o, mCon_e, mOf_e, kOf_e, o2_e, m2_e, k2a_e, k2b_e, kDB_s, kDB_n, fl_e, m1_e, k1a_e, get_dv, get_bw, sv_f, sv_o, sv_n, de_cell, de_non, de_bool, de_int, de_str, de_fn, de_rol, de_lst, de_tup, de_dct, de_dtt, de_ins, mCB_e, kCB_e, getAll_n, getAll_c, g2_e, mVals_e, kVl_e, vals_n, vals_c, aNil_e, aCons_e, kC1_e, kC2_e, mT_e, kTb_e, tAnd_e, kAn_t, kAn_f, tOr_e, kOr_t, kOr_f, tNot_e, kNt_e, mTru_e, kTr_e, kO_s, dTru_b, mIf_e, kIfe_t, kIfe_f, mAnd_e, kAnd_t, kAnd_f, mOr_e, kOr2_t, kOr2_f, mNot_e, kNot2_e, kFr_o, mFn_e, kF1_e, kFn_e, mFnK_e, kK1_e, v2_e, kK2_e, mMut_e, kMu_e, mMut0_e, oM_e, kMut_e, pNone_e, pSome_e, kPs_e, mCut_e, kCt1_e, kCt2_e, oC3_e, kCt3_e, fM_e, endF_n, endF_r, dAdd_i, dAdd_s, dAdd_l, dAdd_t, dSub_i, dMul_i, dDiv_i, dMod_i, dPow_i, dLt_i, dLe_i, dGt_i, dGe_i, dLt_s, dEq_i, dEq_b, dEq_s, dNe_i, dNe_b, dNe_s, dInt_i, dAbs_i, dLen_l, dLen_r, dLen_t, dLen_s, dIx_l, dIx_r, dIx_t, dList_l, dList_r, dList_t, dTuple_l, dTuple_t, dDispL_e, dDispT_e, dIsN_n, dNotN_n, dIsN_bool, dNotN_bool, dIsN_int, dNotN_int, dIsN_str, dNotN_str, dIsN_lst, dNotN_lst, dIsN_tup, dNotN_tup, dIsi_non, dIsiT_non, dIsi_bool, dIsiT_bool, dIsi_int, dIsiT_int, dIsi_str, dIsiT_str, dIsi_lst, dIsiT_lst, dIsi_rol, dIsiT_rol, dIsi_tup, dIsiT_tup, mChain_e, kH1_e, kH2_e, kH3_t, kH3_f, kH4_e, mM1_e, kM1_e, kM2_e, kM3_e, mJs_n, mJs_c, kJ_e, dFmt_s, dNeg_i, dDivmod_e, dMax2_e, dMin2_e, dCut_l, dCut_r, dCut_t, dCut_s, dPop_e, fApp_e, List.getElem?_cons_zero, List.getElem?_cons_succ, List.set_cons_zero, List.set_cons_succ, Option.bind_some, Option.bind_none, Option.map_some, Option.map_none, List.map_cons, List.map_nil, List.length_cons, List.length_nil, List.replicate, List.cons_append, List.nil_append, List.set_set, if_true, if_false, ite_true, ite_false, reduceIte, Nat.reduceAdd, Nat.reduceSub, Nat.zero_add, Nat.add_zero, Bool.not_true, Bool.not_false, decide_true, decide_false, Bool.true_and, Bool.and_true, Bool.false_and, Bool.and_false, Bool.or_true, Bool.true_or, Bool.or_false, Bool.false_or, eq_self]⟩
    · have e : ((-999999999 : Int) < lo) = False := eq_false g
      exact ⟨0, fun c => by simp only [e, b_ok, b_bad, b_ex, f_ok, f_bad, f_ex, n_nx, n_rt, n_bk, n_ct, n_ex, n_bad, l_nx, l_rt, l_bk, l_ct, l_ex, l_bad, sNx_e, sSeq_e, sBk_e, sCt_e, sRetN_e, sExp_e, kExp_e, sRet_e, kRet_e, sIf_e, kIf_t, kIf_f, sSet_e, kSet_e, svOf_t, svOf_f, sSetC_e, kCell_e, sAsg_e, kG1_e, oF_s, oF_n, gN_e, gT_e, gsNil_e, gsCons_e, sPar_e, kPar1_e, kPar2_e, sPar3_e, kPr1_e, kPr2_e, kPr3_e, sPut_e, kPut1_e, kPut2_e, isLst_l, kPut_e, kPt_e, kPu_e, plGet_e, pG_o, pG_c, plS_e, pS_o, pS_f, plC_e, pC_o, pC_c, mFr_e, kFz_e, mVar_e, kVar_f, kVar_o, mMov_e, kMov_f, kMov_o, mBw_e, kBw_f, kBw_o, mCon_e, mOf_e, kOf_e, o2_e, m2_e, k2a_e, k2b_e, kDB_s, kDB_n, fl_e, m1_e, k1a_e, get_dv, get_bw, sv_f, sv_o, sv_n, de_cell, de_non, de_bool, de_int, de_str, de_fn, de_rol, de_lst, de_tup, de_dct, de_dtt, de_ins, mCB_e, kCB_e, getAll_n, getAll_c, g2_e, mVals_e, kVl_e, vals_n, vals_c, aNil_e, aCons_e, kC1_e, kC2_e, mT_e, kTb_e, tAnd_e, kAn_t, kAn_f, tOr_e, kOr_t, kOr_f, tNot_e, kNt_e, mTru_e, kTr_e, kO_s, dTru_b, mIf_e, kIfe_t, kIfe_f, mAnd_e, kAnd_t, kAnd_f, mOr_e, kOr2_t, kOr2_f, mNot_e, kNot2_e, kFr_o, mFn_e, kF1_e, kFn_e, mFnK_e, kK1_e, v2_e, kK2_e, mMut_e, kMu_e, mMut0_e, oM_e, kMut_e, pNone_e, pSome_e, kPs_e, mCut_e, kCt1_e, kCt2_e, oC3_e, kCt3_e, fM_e, endF_n, endF_r, dAdd_i, dAdd_s, dAdd_l, dAdd_t, dSub_i, dMul_i, dDiv_i, dMod_i, dPow_i, dLt_i, dLe_i, dGt_i, dGe_i, dLt_s, dEq_i, dEq_b, dEq_s, dNe_i, dNe_b, dNe_s, dInt_i, dAbs_i, dLen_l, dLen_r, dLen_t, dLen_s, dIx_l, dIx_r, dIx_t, dList_l, dList_r, dList_t, dTuple_l, dTuple_t, dDispL_e, dDispT_e, dIsN_n, dNotN_n, dIsN_bool, dNotN_bool, dIsN_int, dNotN_int, dIsN_str, dNotN_str, dIsN_lst, dNotN_lst, dIsN_tup, dNotN_tup, dIsi_non, dIsiT_non, dIsi_bool, dIsiT_bool, dIsi_int, dIsiT_int, dIsi_str, dIsiT_str, dIsi_lst, dIsiT_lst, dIsi_rol, dIsiT_rol, dIsi_tup, dIsiT_tup, mChain_e, kH1_e, kH2_e, kH3_t, kH3_f, kH4_e, mM1_e, kM1_e, kM2_e, kM3_e, mJs_n, mJs_c, kJ_e, dFmt_s, dNeg_i, dDivmod_e, dMax2_e, dMin2_e, dCut_l, dCut_r, dCut_t, dCut_s, dPop_e, fApp_e, List.getElem?_cons_zero, List.getElem?_cons_succ, List.set_cons_zero, List.set_cons_succ, Option.bind_some, Option.bind_none, Option.map_some, Option.map_none, List.map_cons, List.map_nil, List.length_cons, List.length_nil, List.replicate, List.cons_append, List.nil_append, List.set_set, if_true, if_false, ite_true, ite_false, reduceIte, Nat.reduceAdd, Nat.reduceSub, Nat.zero_add, Nat.add_zero, Bool.not_true, Bool.not_false, decide_true, decide_false, Bool.true_and, Bool.and_true, Bool.false_and, Bool.and_false, Bool.or_true, Bool.true_or, Bool.or_false, Bool.false_or, eq_self]⟩
  obtain ⟨v, hv⟩ := hi2
  obtain ⟨y, c4, h4, b4, m4⟩ := of_l (xs := [.int lo, .int (lo + 1), .int v, .int 999999999, .int (j2 : Int)]) b3 (by simp) (by simp)
  have hy : ∃ hi : Int, y = .int hi := by
    simp only [List.mem_cons, List.not_mem_nil, or_false] at m4
    rcases m4 with rfl | rfl | rfl | rfl | rfl <;> exact ⟨_, rfl⟩
  obtain ⟨hi, rfl⟩ := hy
  obtain ⟨j3, c5, h5, b5, l5⟩ := draw_bg b4 (sides := 1000) (by decide) (by decide)
  obtain ⟨o, c6, h6, b6, t6⟩ := odd_ok (more := []) b5 (fun d hd => by cases hd) (by simp)
  have st := dStr_e (log_small (i := lo) (by omega))
  have e1 : sSet 1 (mFn 2 f__law_of (aCons (mOf (mVar 0)) (aCons (mOf (mVals dDispL (aCons (mOf (mCon (.int 0))) (aCons (mOf (mCon (.int 1))) (aCons (mOf (m1 dNeg (mOf (mCon (.int 1))))) (aCons (mOf (m1 dNeg (mOf (mCon (.int 999999999))))) (aCons (mOf (m2 dSub (mOf (mFn 2 f__law_draw (aCons (mOf (mVar 0)) (aCons (mOf (mCon (.int 1000))) aNil)))) (mOf (mCon (.int 500))))) aNil))))))) aNil))) [.fz (.cell 0), .no, .no, .no, .no] c = .nx [.fz (.cell 0), .fz (.int lo), .no, .no, .no] c2 := by
    simp only [h1, h2, z5, b_ok, b_bad, b_ex, f_ok, f_bad, f_ex, n_nx, n_rt, n_bk, n_ct, n_ex, n_bad, l_nx, l_rt, l_bk, l_ct, l_ex, l_bad, sNx_e, sSeq_e, sBk_e, sCt_e, sRetN_e, sExp_e, kExp_e, sRet_e, kRet_e, sIf_e, kIf_t, kIf_f, sSet_e, kSet_e, svOf_t, svOf_f, sSetC_e, kCell_e, sAsg_e, kG1_e, oF_s, oF_n, gN_e, gT_e, gsNil_e, gsCons_e, sPar_e, kPar1_e, kPar2_e, sPar3_e, kPr1_e, kPr2_e, kPr3_e, sPut_e, kPut1_e, kPut2_e, isLst_l, kPut_e, kPt_e, kPu_e, plGet_e, pG_o, pG_c, plS_e, pS_o, pS_f, plC_e, pC_o, pC_c, mFr_e, kFz_e, mVar_e, kVar_f, kVar_o, mMov_e, kMov_f, kMov_o, mBw_e, kBw_f, kBw_o, mCon_e, mOf_e, kOf_e, o2_e, m2_e, k2a_e, k2b_e, kDB_s, kDB_n, fl_e, m1_e, k1a_e, get_dv, get_bw, sv_f, sv_o, sv_n, de_cell, de_non, de_bool, de_int, de_str, de_fn, de_rol, de_lst, de_tup, de_dct, de_dtt, de_ins, mCB_e, kCB_e, getAll_n, getAll_c, g2_e, mVals_e, kVl_e, vals_n, vals_c, aNil_e, aCons_e, kC1_e, kC2_e, mT_e, kTb_e, tAnd_e, kAn_t, kAn_f, tOr_e, kOr_t, kOr_f, tNot_e, kNt_e, mTru_e, kTr_e, kO_s, dTru_b, mIf_e, kIfe_t, kIfe_f, mAnd_e, kAnd_t, kAnd_f, mOr_e, kOr2_t, kOr2_f, mNot_e, kNot2_e, kFr_o, mFn_e, kF1_e, kFn_e, mFnK_e, kK1_e, v2_e, kK2_e, mMut_e, kMu_e, mMut0_e, oM_e, kMut_e, pNone_e, pSome_e, kPs_e, mCut_e, kCt1_e, kCt2_e, oC3_e, kCt3_e, fM_e, endF_n, endF_r, dAdd_i, dAdd_s, dAdd_l, dAdd_t, dSub_i, dMul_i, dDiv_i, dMod_i, dPow_i, dLt_i, dLe_i, dGt_i, dGe_i, dLt_s, dEq_i, dEq_b, dEq_s, dNe_i, dNe_b, dNe_s, dInt_i, dAbs_i, dLen_l, dLen_r, dLen_t, dLen_s, dIx_l, dIx_r, dIx_t, dList_l, dList_r, dList_t, dTuple_l, dTuple_t, dDispL_e, dDispT_e, dIsN_n, dNotN_n, dIsN_bool, dNotN_bool, dIsN_int, dNotN_int, dIsN_str, dNotN_str, dIsN_lst, dNotN_lst, dIsN_tup, dNotN_tup, dIsi_non, dIsiT_non, dIsi_bool, dIsiT_bool, dIsi_int, dIsiT_int, dIsi_str, dIsiT_str, dIsi_lst, dIsiT_lst, dIsi_rol, dIsiT_rol, dIsi_tup, dIsiT_tup, mChain_e, kH1_e, kH2_e, kH3_t, kH3_f, kH4_e, mM1_e, kM1_e, kM2_e, kM3_e, mJs_n, mJs_c, kJ_e, dFmt_s, dNeg_i, dDivmod_e, dMax2_e, dMin2_e, dCut_l, dCut_r, dCut_t, dCut_s, dPop_e, fApp_e, List.getElem?_cons_zero, List.getElem?_cons_succ, List.set_cons_zero, List.set_cons_succ, Option.bind_some, Option.bind_none, Option.map_some, Option.map_none, List.map_cons, List.map_nil, List.length_cons, List.length_nil, List.replicate, List.cons_append, List.nil_append, List.set_set, if_true, if_false, ite_true, ite_false, reduceIte, Nat.reduceAdd, Nat.reduceSub, Nat.zero_add, Nat.add_zero, Bool.not_true, Bool.not_false, decide_true, decide_false, Bool.true_and, Bool.and_true, Bool.false_and, Bool.and_false, Bool.or_true, Bool.true_or, Bool.or_false, Bool.false_or, eq_self]
  have e2 : sSet 2 (mFn 2 f__law_of (aCons (mOf (mVar 0)) (aCons (mOf (mVals dDispL (aCons (mOf (mVar 1)) (aCons (mOf (m2 dAdd (mBw 1) (mOf (mCon (.int 1))))) (aCons (mOf (mIf (mT (m2 dGt (mBw 1) (mOf (m1 dNeg (mOf (mCon (.int 999999999))))))) (m2 dSub (mBw 1) (mOf (mCon (.int 1)))) (mCon (.int 0)))) (aCons (mOf (mCon (.int 999999999))) (aCons (mOf (mFn 2 f__law_draw (aCons (mOf (mVar 0)) (aCons (mOf (mCon (.int 1000))) aNil)))) aNil))))))) aNil))) [.fz (.cell 0), .fz (.int lo), .no, .no, .no] c2 = .nx [.fz (.cell 0), .fz (.int lo), .fz (.int hi), .no, .no] c4 := by
    simp only [sSet_e, mFn_e, aCons_e, aNil_e, mOf_e, mVals_e, hv, h3, h4, z5, List.getElem?_cons_zero, List.getElem?_cons_succ, mVar_e, kVar_f, b_ok, kOf_e, kC1_e, kC2_e, m2_e, k2a_e, k2b_e, mBw_e, kBw_f, mCon_e, get_dv, get_bw, sv_f, Option.bind_some, de_int, o2_e, dAdd_i, fl_e, kDB_s, kVl_e, vals_c, vals_n, Option.map_some, dDispL_e, List.length_cons, List.length_nil, Nat.zero_add, Nat.reduceAdd, if_true, kF1_e, kFn_e, kFr_o, f_ok, kSet_e, svOf_f, List.set_cons_zero, List.set_cons_succ]
  have loop : ∀ Q : Fl → Prop, (∀ s c, Bg c → Q (.nx s c)) → ∀ (ds : List EV.D) (mi : MI), (∀ d ∈ ds, Nu d) → mi [.fz (.cell 0), .fz (.int lo), .fz (.int hi), .no, .no] c4 = .ok (ds.length + 1, lkL ds) [.fz (.cell 0), .fz (.int lo), .fz (.int hi), .no, .no] c6 →
      Q (sFor mi (gN 3) (sSeq (sSet 4 (mAnd (mFn 1 f__law_whole (aCons (mOf (mVar 3)) aNil)) (mAnd (m2 dLe (mBw 1) (mBw 3)) (m2 dLe (mBw 3) (mBw 2))))) (sIf (tNotM (mTru (mOf (mFn 2 (f__law_same 6) (aCons (mOf (mVals dDispL (aCons (mOf (mFn 3 f_is_number (aCons (mOf (mVar 3)) (aCons (mOf (mVar 1)) (aCons (mOf (mVar 2)) aNil))))) (aCons (mOf (mFnK 0 3 [1, 2, 0] f_is_number aNil (aCons (mOf (mVar 2)) (aCons (mOf (mVar 3)) (aCons (mOf (mVar 1)) aNil))))) aNil)))) (aCons (mOf (mVals dDispL (aCons (mOf (mVar 4)) (aCons (mOf (mVar 4)) aNil)))) aNil)))))) (sRet (mCon (.bool false))) sNx)) [.fz (.cell 0), .fz (.int lo), .fz (.int hi), .no, .no] c4) := by
    intro Q hQ ds mi hd hm
    refine sFor_go hm (fun i s c => ∃ x3 x4, s = [.fz (.cell 0), .fz (.int lo), .fz (.int hi), x3, x4] ∧ Bg c) Q ⟨_, _, rfl, b6⟩ (fun s c ⟨_, _, _, b⟩ => hQ s c b) fun i d s c he ⟨x3, x4, e, b⟩ => ?_
    subst e
    refine ⟨_, rfl, ?_⟩
    have nd := hd d (List.mem_of_getElem? he)
    have du := due_ok (lo := lo) (hi := hi) (c := c) (x4 := x4) nd
    have nu := number_ok (lo := lo) (hi := hi) (c := c) nd
    have sm := same_l (n := 4) (c := c) (ds := [.bool (num d lo hi), .bool (num d lo hi)]) (fun x hx => by
      simp only [List.mem_cons, List.not_mem_nil, or_false] at hx
      rcases hx with rfl | rfl <;> exact .inl ⟨_, rfl⟩) (by simp)
    have p1 : (([] : List Od).length = 0 ∧ (3 : Nat) = 3) = True := by simp
    simp only [sSeq_e, sSet_e, sIf_e, gN_e, List.set_cons_zero, List.set_cons_succ, du, f_ok, kSet_e, svOf_f, n_nx, tNot_e, mTru_e, mOf_e, mFn_e, mFnK_e, kK1_e, kK2_e, v2_e, aCons_e, aNil_e, mVals_e, mVar_e, kVar_f, List.getElem?_cons_zero, List.getElem?_cons_succ, b_ok, kOf_e, kC1_e, kC2_e, kF1_e, kFn_e, kFr_o, vals_c, vals_n, Option.map_some, List.length_cons, List.length_nil, Nat.zero_add, Nat.reduceAdd, if_true, nu, pick, p1, true_and, and_self, and_true, List.nil_append, kVl_e, Option.bind_some, dDispL_e, z2, kDB_s, sm, kTr_e, get_dv, de_bool, dTru_b, kO_s, kNt_e, Bool.not_true, kIf_f, sNx_e]
    exact ⟨_, _, rfl, b⟩
  unfold f__law_numbers m__law_numbers
  simp only [fM_e, List.map_cons, List.map_nil, List.length_cons, List.length_nil, Nat.reduceAdd, Nat.zero_add, Nat.reduceSub, List.replicate, List.cons_append, List.nil_append, sSeq_e, e1, e2, n_nx]
  refine loop (fun o => ∃ c', endF (o.nxt (sRet (mCon (.bool true)))) = .ok (.bool true, false) [] c' ∧ Bg c') (fun s c b => ⟨c, by simp only [b_ok, b_bad, b_ex, f_ok, f_bad, f_ex, n_nx, n_rt, n_bk, n_ct, n_ex, n_bad, l_nx, l_rt, l_bk, l_ct, l_ex, l_bad, sNx_e, sSeq_e, sBk_e, sCt_e, sRetN_e, sExp_e, kExp_e, sRet_e, kRet_e, sIf_e, kIf_t, kIf_f, sSet_e, kSet_e, svOf_t, svOf_f, sSetC_e, kCell_e, sAsg_e, kG1_e, oF_s, oF_n, gN_e, gT_e, gsNil_e, gsCons_e, sPar_e, kPar1_e, kPar2_e, sPar3_e, kPr1_e, kPr2_e, kPr3_e, sPut_e, kPut1_e, kPut2_e, isLst_l, kPut_e, kPt_e, kPu_e, plGet_e, pG_o, pG_c, plS_e, pS_o, pS_f, plC_e, pC_o, pC_c, mFr_e, kFz_e, mVar_e, kVar_f, kVar_o, mMov_e, kMov_f, kMov_o, mBw_e, kBw_f, kBw_o, mCon_e, mOf_e, kOf_e, o2_e, m2_e, k2a_e, k2b_e, kDB_s, kDB_n, fl_e, m1_e, k1a_e, get_dv, get_bw, sv_f, sv_o, sv_n, de_cell, de_non, de_bool, de_int, de_str, de_fn, de_rol, de_lst, de_tup, de_dct, de_dtt, de_ins, mCB_e, kCB_e, getAll_n, getAll_c, g2_e, mVals_e, kVl_e, vals_n, vals_c, aNil_e, aCons_e, kC1_e, kC2_e, mT_e, kTb_e, tAnd_e, kAn_t, kAn_f, tOr_e, kOr_t, kOr_f, tNot_e, kNt_e, mTru_e, kTr_e, kO_s, dTru_b, mIf_e, kIfe_t, kIfe_f, mAnd_e, kAnd_t, kAnd_f, mOr_e, kOr2_t, kOr2_f, mNot_e, kNot2_e, kFr_o, mFn_e, kF1_e, kFn_e, mFnK_e, kK1_e, v2_e, kK2_e, mMut_e, kMu_e, mMut0_e, oM_e, kMut_e, pNone_e, pSome_e, kPs_e, mCut_e, kCt1_e, kCt2_e, oC3_e, kCt3_e, fM_e, endF_n, endF_r, dAdd_i, dAdd_s, dAdd_l, dAdd_t, dSub_i, dMul_i, dDiv_i, dMod_i, dPow_i, dLt_i, dLe_i, dGt_i, dGe_i, dLt_s, dEq_i, dEq_b, dEq_s, dNe_i, dNe_b, dNe_s, dInt_i, dAbs_i, dLen_l, dLen_r, dLen_t, dLen_s, dIx_l, dIx_r, dIx_t, dList_l, dList_r, dList_t, dTuple_l, dTuple_t, dDispL_e, dDispT_e, dIsN_n, dNotN_n, dIsN_bool, dNotN_bool, dIsN_int, dNotN_int, dIsN_str, dNotN_str, dIsN_lst, dNotN_lst, dIsN_tup, dNotN_tup, dIsi_non, dIsiT_non, dIsi_bool, dIsiT_bool, dIsi_int, dIsiT_int, dIsi_str, dIsiT_str, dIsi_lst, dIsiT_lst, dIsi_rol, dIsiT_rol, dIsi_tup, dIsiT_tup, mChain_e, kH1_e, kH2_e, kH3_t, kH3_f, kH4_e, mM1_e, kM1_e, kM2_e, kM3_e, mJs_n, mJs_c, kJ_e, dFmt_s, dNeg_i, dDivmod_e, dMax2_e, dMin2_e, dCut_l, dCut_r, dCut_t, dCut_s, dPop_e, fApp_e, List.getElem?_cons_zero, List.getElem?_cons_succ, List.set_cons_zero, List.set_cons_succ, Option.bind_some, Option.bind_none, Option.map_some, Option.map_none, List.map_cons, List.map_nil, List.length_cons, List.length_nil, List.replicate, List.cons_append, List.nil_append, List.set_set, if_true, if_false, ite_true, ite_false, reduceIte, Nat.reduceAdd, Nat.reduceSub, Nat.zero_add, Nat.add_zero, Bool.not_true, Bool.not_false, decide_true, decide_false, Bool.true_and, Bool.and_true, Bool.false_and, Bool.and_false, Bool.or_true, Bool.true_or, Bool.or_false, Bool.false_or, eq_self], b⟩)
    [.int lo, .int hi, .int (lo + 1), .int (if (-999999999 : Int) > hi - 1 then -999999999 else hi - 1), .bool true, .bool false, .non, .str (toString lo), .tup [.int lo], .lst [.int hi], .int ((j3 : Int) - 500), o] _ (fun d hd => ?_) ?_
  · simp only [List.mem_cons, List.not_mem_nil, or_false] at hd
    rcases hd with rfl | rfl | rfl | rfl | rfl | rfl | rfl | rfl | rfl | rfl | rfl | rfl
    · exact .inr (.inr (.inl ⟨_, rfl⟩))
    · exact .inr (.inr (.inl ⟨_, rfl⟩))
    · exact .inr (.inr (.inl ⟨_, rfl⟩))
    · exact .inr (.inr (.inl ⟨_, rfl⟩))
    · exact .inr (.inl ⟨_, rfl⟩)
    · exact .inr (.inl ⟨_, rfl⟩)
    · exact .inl rfl
    · exact .inr (.inr (.inr (.inl ⟨_, rfl⟩)))
    · exact .inr (.inr (.inr (.inr (.inr ⟨_, rfl⟩))))
    · exact .inr (.inr (.inr (.inr (.inl ⟨_, rfl⟩))))
    · exact .inr (.inr (.inl ⟨_, rfl⟩))
    · exact t6.nu
  · refine iAny_l ?_
    simp only [h5, h6, st, z0, z1, z12, b_ok, b_bad, b_ex, f_ok, f_bad, f_ex, n_nx, n_rt, n_bk, n_ct, n_ex, n_bad, l_nx, l_rt, l_bk, l_ct, l_ex, l_bad, sNx_e, sSeq_e, sBk_e, sCt_e, sRetN_e, sExp_e, kExp_e, sRet_e, kRet_e, sIf_e, kIf_t, kIf_f, sSet_e, kSet_e, svOf_t, svOf_f, sSetC_e, kCell_e, sAsg_e, kG1_e, oF_s, oF_n, gN_e, gT_e, gsNil_e, gsCons_e, sPar_e, kPar1_e, kPar2_e, sPar3_e, kPr1_e, kPr2_e, kPr3_e, sPut_e, kPut1_e, kPut2_e, isLst_l, kPut_e, kPt_e, kPu_e, plGet_e, pG_o, pG_c, plS_e, pS_o, pS_f, plC_e, pC_o, pC_c, mFr_e, kFz_e, mVar_e, kVar_f, kVar_o, mMov_e, kMov_f, kMov_o, mBw_e, kBw_f, kBw_o, mCon_e, mOf_e, kOf_e, o2_e, m2_e, k2a_e, k2b_e, kDB_s, kDB_n, fl_e, m1_e, k1a_e, get_dv, get_bw, sv_f, sv_o, sv_n, de_cell, de_non, de_bool, de_int, de_str, de_fn, de_rol, de_lst, de_tup, de_dct, de_dtt, de_ins, mCB_e, kCB_e, getAll_n, getAll_c, g2_e, mVals_e, kVl_e, vals_n, vals_c, aNil_e, aCons_e, kC1_e, kC2_e, mT_e, kTb_e, tAnd_e, kAn_t, kAn_f, tOr_e, kOr_t, kOr_f, tNot_e, kNt_e, mTru_e, kTr_e, kO_s, dTru_b, mIf_e, kIfe_t, kIfe_f, mAnd_e, kAnd_t, kAnd_f, mOr_e, kOr2_t, kOr2_f, mNot_e, kNot2_e, kFr_o, mFn_e, kF1_e, kFn_e, mFnK_e, kK1_e, v2_e, kK2_e, mMut_e, kMu_e, mMut0_e, oM_e, kMut_e, pNone_e, pSome_e, kPs_e, mCut_e, kCt1_e, kCt2_e, oC3_e, kCt3_e, fM_e, endF_n, endF_r, dAdd_i, dAdd_s, dAdd_l, dAdd_t, dSub_i, dMul_i, dDiv_i, dMod_i, dPow_i, dLt_i, dLe_i, dGt_i, dGe_i, dLt_s, dEq_i, dEq_b, dEq_s, dNe_i, dNe_b, dNe_s, dInt_i, dAbs_i, dLen_l, dLen_r, dLen_t, dLen_s, dIx_l, dIx_r, dIx_t, dList_l, dList_r, dList_t, dTuple_l, dTuple_t, dDispL_e, dDispT_e, dIsN_n, dNotN_n, dIsN_bool, dNotN_bool, dIsN_int, dNotN_int, dIsN_str, dNotN_str, dIsN_lst, dNotN_lst, dIsN_tup, dNotN_tup, dIsi_non, dIsiT_non, dIsi_bool, dIsiT_bool, dIsi_int, dIsiT_int, dIsi_str, dIsiT_str, dIsi_lst, dIsiT_lst, dIsi_rol, dIsiT_rol, dIsi_tup, dIsiT_tup, mChain_e, kH1_e, kH2_e, kH3_t, kH3_f, kH4_e, mM1_e, kM1_e, kM2_e, kM3_e, mJs_n, mJs_c, kJ_e, dFmt_s, dNeg_i, dDivmod_e, dMax2_e, dMin2_e, dCut_l, dCut_r, dCut_t, dCut_s, dPop_e, fApp_e, List.getElem?_cons_zero, List.getElem?_cons_succ, List.set_cons_zero, List.set_cons_succ, Option.bind_some, Option.bind_none, Option.map_some, Option.map_none, List.map_cons, List.map_nil, List.length_cons, List.length_nil, List.replicate, List.cons_append, List.nil_append, List.set_set, if_true, if_false, ite_true, ite_false, reduceIte, Nat.reduceAdd, Nat.reduceSub, Nat.zero_add, Nat.add_zero, Bool.not_true, Bool.not_false, decide_true, decide_false, Bool.true_and, Bool.and_true, Bool.false_and, Bool.and_false, Bool.or_true, Bool.true_or, Bool.or_false, Bool.false_or, eq_self]
end KW

set_option Elab.async false
set_option linter.all false
set_option maxRecDepth 100000
namespace KW
open PySem PySem.Spec L2 EV
open PyProof.Rows hiding St
/-! ### marks -/
def chS (k : Nat) : Str := ⟨#[LET.cps.toList.getD k 0]⟩
theorem letL : LET.cps.toList.length = 26 := by decide
theorem letN : Str.length "abcdefghijklmnopqrstuvwxyz" = 26 := by decide
theorem chS_at {k : Nat} (h : k < 26) : dIx (.str "abcdefghijklmnopqrstuvwxyz") (.int (k : Int)) = some (.str (chS k), false) := by
  have hl : k < LET.cps.toList.length := by rw [letL]; exact h
  show (if LET.length ≤ sizeLine then (atI LET.cps.toList (k : Int)).bind fun c => fl (.str ⟨#[c]⟩) else none) = _
  rw [if_pos (show LET.length ≤ sizeLine from line_of abc26 (by decide)), atI_n (List.getElem?_eq_getElem hl)]
  show some (EV.D.str ⟨#[LET.cps.toList[k]]⟩, false) = _
  unfold chS
  have : LET.cps.toList.getD k 0 = LET.cps.toList[k] := by simp [List.getD, List.getElem?_eq_getElem hl]
  rw [this]
def nm : Nat → Nat → Str → Str
  | 0, _, acc => acc
  | f + 1, r, acc => if r = 0 then acc else nm f ((r - 1) / 26) (chS ((r - 1) % 26) ++ acc)
theorem nm_f : ∀ (f g r : Nat) (acc : Str), r ≤ f → r ≤ g → nm f r acc = nm g r acc
  | 0, 0, _, _, _, _ => rfl
  | 0, g + 1, r, acc, h, _ => by
    have : r = 0 := by omega
    subst this
    rfl
  | f + 1, 0, r, acc, _, h => by
    have : r = 0 := by omega
    subst this
    rfl
  | f + 1, g + 1, r, acc, h, k => by
    show (if r = 0 then acc else nm f ((r - 1) / 26) (chS ((r - 1) % 26) ++ acc)) = (if r = 0 then acc else nm g ((r - 1) / 26) (chS ((r - 1) % 26) ++ acc))
    by_cases e : r = 0
    · rw [if_pos e, if_pos e]
    · rw [if_neg e, if_neg e]
      exact nm_f f g _ _ (by omega) (by omega)
def mk : Nat → Nat → Str → Str
  | 0, _, acc => acc
  | s + 1, l, acc => mk s (l / 26) (chS (l % 26) ++ acc)
def U : Nat → Nat
  | 0 => 0
  | s + 1 => 26 * (1 + U s)
theorem nm_mk : ∀ (s l f : Nat) (acc : Str), l < 26 ^ (s + 1) → l + U s + 1 ≤ f → nm f (l + U s + 1) acc = mk (s + 1) l acc
  | 0, l, f, acc, h, hf => by
    obtain ⟨f, rfl⟩ : ∃ g, f = g + 1 := ⟨f - 1, by omega⟩
    have h' : l < 26 := by simpa using h
    have e0 : U 0 = 0 := rfl
    rw [e0]
    show (if l + 0 + 1 = 0 then acc else nm f ((l + 0 + 1 - 1) / 26) (chS ((l + 0 + 1 - 1) % 26) ++ acc)) = chS (l % 26) ++ acc
    rw [if_neg (by omega)]
    have e1 : l + 0 + 1 - 1 = l := by omega
    rw [e1]
    have e2 : l / 26 = 0 := by omega
    rw [e2]
    cases f <;> rfl
  | s + 1, l, f, acc, h, hf => by
    obtain ⟨f, rfl⟩ : ∃ g, f = g + 1 := ⟨f - 1, by omega⟩
    have e0 : U (s + 1) = 26 * (1 + U s) := rfl
    show (if l + U (s + 1) + 1 = 0 then acc else nm f ((l + U (s + 1) + 1 - 1) / 26) (chS ((l + U (s + 1) + 1 - 1) % 26) ++ acc)) = mk (s + 1) (l / 26) (chS (l % 26) ++ acc)
    rw [if_neg (by omega)]
    have e1 : (l + U (s + 1) + 1 - 1) / 26 = l / 26 + U s + 1 := by rw [e0]; omega
    have e2 : (l + U (s + 1) + 1 - 1) % 26 = l % 26 := by rw [e0]; omega
    rw [e1, e2]
    have e3 : l / 26 < 26 ^ (s + 1) := by
      rw [Nat.pow_succ] at h
      omega
    exact nm_mk s (l / 26) f _ e3 (by rw [e0] at hf; omega)
theorem chS_len {k : Nat} : (chS k).length = 1 := rfl
theorem app_len {x y : Str} : (x ++ y).length = x.length + y.length := by
  show (x.cps ++ y.cps).size = _
  rw [Array.size_append]
  rfl
theorem emp_app {x : Str} : Str.empty ++ x = x := by
  show Str.mk (#[] ++ x.cps) = x
  rw [Array.empty_append]
theorem nth_ok {i : Nat} {c : CL} (h : i < 1000000) : f_nth_mark [.int (i : Int)] c = .ok (.str (nm (i + 1) (i + 1) Str.empty), false) [] c := by
  have hL : sizeLine = 16777216 := sizeLine_eq
  have loop : ∀ Q : Fl → Prop, (∀ x3, Q (.nx [.fz (.int (i : Int)), .fz (.str (nm (i + 1) (i + 1) Str.empty)), .fz (.int 0), x3] c)) →
      Q (sWhile w_nth_mark_1 (mT (m2 dGt (mBw 2) (mOf (mCon (.int 0))))) (sSeq (sAsg (gT 2 (gsCons (gN 2) (gsCons (gN 3) gsNil))) (mCB dDivmod (aCons (mOf (m2 dSub (mBw 2) (mOf (mCon (.int 1))))) (aCons (mOf (mCB dLen (aCons (mOf (mCon (.str "abcdefghijklmnopqrstuvwxyz"))) aNil))) aNil)))) (sSet 1 (mJs Str.empty [(m1 dFmt (mOf (m2 dIx (mOf (mCon (.str "abcdefghijklmnopqrstuvwxyz"))) (mBw 3)))), (m1 dFmt (mBw 1))]))) [.fz (.int (i : Int)), .fz (.str Str.empty), .fz (.int ((i : Int) + 1)), .no] c) := by
    intro Q hQ
    unfold sWhile
    have ew : w_nth_mark_1 [.fz (.int (i : Int)), .fz (.str Str.empty), .fz (.int ((i : Int) + 1)), .no] c = i + 1 + 1 := by
      show ((i : Int) + 1).toNat + 1 = _
      omega
    rw [ew]
    refine wLoop_go (fun r s c' => ∃ (acc : Str) (x3 : SV), s = [.fz (.int (i : Int)), .fz (.str acc), .fz (.int (r : Int)), x3] ∧ c' = c ∧ nm r r acc = nm (i + 1) (i + 1) Str.empty ∧ acc.length + r ≤ i + 1) Q (fun r s c' hh => ?_) (i + 1) _ _ c (Nat.lt_succ_self _) ⟨Str.empty, .no, rfl, rfl, rfl, by show 0 + (i + 1) ≤ i + 1; omega⟩
    obtain ⟨acc, x3, e1, e2, e3, e4⟩ := hh
    subst e1 e2
    by_cases hr : r = 0
    · subst hr
      have g : ((0 : Int) < ((0 : Nat) : Int)) = False := by simp
      refine .inl ⟨[.fz (.int (i : Int)), .fz (.str acc), .fz (.int ((0 : Nat) : Int)), x3], c', by simp only [g, b_ok, b_bad, b_ex, f_ok, f_bad, f_ex, n_nx, n_rt, n_bk, n_ct, n_ex, n_bad, l_nx, l_rt, l_bk, l_ct, l_ex, l_bad, sNx_e, sSeq_e, sBk_e, sCt_e, sRetN_e, sExp_e, kExp_e, sRet_e, kRet_e, sIf_e, kIf_t, kIf_f, sSet_e, kSet_e, svOf_t, svOf_f, sSetC_e, kCell_e, sAsg_e, kG1_e, oF_s, oF_n, gN_e, gT_e, gsNil_e, gsCons_e, sPar_e, kPar1_e, kPar2_e, sPar3_e, kPr1_e, kPr2_e, kPr3_e, sPut_e, kPut1_e, kPut2_e, isLst_l, kPut_e, kPt_e, kPu_e, plGet_e, pG_o, pG_c, plS_e, pS_o, pS_f, plC_e, pC_o, pC_c, mFr_e, kFz_e, mVar_e, kVar_f, kVar_o, mMov_e, kMov_f, kMov_o, mBw_e, kBw_f, kBw_o, mCon_e, mOf_e, kOf_e, o2_e, m2_e, k2a_e, k2b_e, kDB_s, kDB_n, fl_e, m1_e, k1a_e, get_dv, get_bw, sv_f, sv_o, sv_n, de_cell, de_non, de_bool, de_int, de_str, de_fn, de_rol, de_lst, de_tup, de_dct, de_dtt, de_ins, mCB_e, kCB_e, getAll_n, getAll_c, g2_e, mVals_e, kVl_e, vals_n, vals_c, aNil_e, aCons_e, kC1_e, kC2_e, mT_e, kTb_e, tAnd_e, kAn_t, kAn_f, tOr_e, kOr_t, kOr_f, tNot_e, kNt_e, mTru_e, kTr_e, kO_s, dTru_b, mIf_e, kIfe_t, kIfe_f, mAnd_e, kAnd_t, kAnd_f, mOr_e, kOr2_t, kOr2_f, mNot_e, kNot2_e, kFr_o, mFn_e, kF1_e, kFn_e, mFnK_e, kK1_e, v2_e, kK2_e, mMut_e, kMu_e, mMut0_e, oM_e, kMut_e, pNone_e, pSome_e, kPs_e, mCut_e, kCt1_e, kCt2_e, oC3_e, kCt3_e, fM_e, endF_n, endF_r, dAdd_i, dAdd_s, dAdd_l, dAdd_t, dSub_i, dMul_i, dDiv_i, dMod_i, dPow_i, dLt_i, dLe_i, dGt_i, dGe_i, dLt_s, dEq_i, dEq_b, dEq_s, dNe_i, dNe_b, dNe_s, dInt_i, dAbs_i, dLen_l, dLen_r, dLen_t, dLen_s, dIx_l, dIx_r, dIx_t, dList_l, dList_r, dList_t, dTuple_l, dTuple_t, dDispL_e, dDispT_e, dIsN_n, dNotN_n, dIsN_bool, dNotN_bool, dIsN_int, dNotN_int, dIsN_str, dNotN_str, dIsN_lst, dNotN_lst, dIsN_tup, dNotN_tup, dIsi_non, dIsiT_non, dIsi_bool, dIsiT_bool, dIsi_int, dIsiT_int, dIsi_str, dIsiT_str, dIsi_lst, dIsiT_lst, dIsi_rol, dIsiT_rol, dIsi_tup, dIsiT_tup, mChain_e, kH1_e, kH2_e, kH3_t, kH3_f, kH4_e, mM1_e, kM1_e, kM2_e, kM3_e, mJs_n, mJs_c, kJ_e, dFmt_s, dNeg_i, dDivmod_e, dMax2_e, dMin2_e, dCut_l, dCut_r, dCut_t, dCut_s, dPop_e, fApp_e, List.getElem?_cons_zero, List.getElem?_cons_succ, List.set_cons_zero, List.set_cons_succ, Option.bind_some, Option.bind_none, Option.map_some, Option.map_none, List.map_cons, List.map_nil, List.length_cons, List.length_nil, List.replicate, List.cons_append, List.nil_append, List.set_set, if_true, if_false, ite_true, ite_false, reduceIte, Nat.reduceAdd, Nat.reduceSub, Nat.zero_add, Nat.add_zero, Bool.not_true, Bool.not_false, decide_true, decide_false, Bool.true_and, Bool.and_true, Bool.false_and, Bool.and_false, Bool.or_true, Bool.true_or, Bool.or_false, Bool.false_or, eq_self], ?_⟩
      have : acc = nm (i + 1) (i + 1) Str.empty := e3
      rw [this]
      exact hQ x3
    · have g : ((0 : Int) < (r : Int)) = True := eq_true (by omega)
      refine .inr ⟨[.fz (.int (i : Int)), .fz (.str acc), .fz (.int (r : Int)), x3], c', by simp only [g, b_ok, b_bad, b_ex, f_ok, f_bad, f_ex, n_nx, n_rt, n_bk, n_ct, n_ex, n_bad, l_nx, l_rt, l_bk, l_ct, l_ex, l_bad, sNx_e, sSeq_e, sBk_e, sCt_e, sRetN_e, sExp_e, kExp_e, sRet_e, kRet_e, sIf_e, kIf_t, kIf_f, sSet_e, kSet_e, svOf_t, svOf_f, sSetC_e, kCell_e, sAsg_e, kG1_e, oF_s, oF_n, gN_e, gT_e, gsNil_e, gsCons_e, sPar_e, kPar1_e, kPar2_e, sPar3_e, kPr1_e, kPr2_e, kPr3_e, sPut_e, kPut1_e, kPut2_e, isLst_l, kPut_e, kPt_e, kPu_e, plGet_e, pG_o, pG_c, plS_e, pS_o, pS_f, plC_e, pC_o, pC_c, mFr_e, kFz_e, mVar_e, kVar_f, kVar_o, mMov_e, kMov_f, kMov_o, mBw_e, kBw_f, kBw_o, mCon_e, mOf_e, kOf_e, o2_e, m2_e, k2a_e, k2b_e, kDB_s, kDB_n, fl_e, m1_e, k1a_e, get_dv, get_bw, sv_f, sv_o, sv_n, de_cell, de_non, de_bool, de_int, de_str, de_fn, de_rol, de_lst, de_tup, de_dct, de_dtt, de_ins, mCB_e, kCB_e, getAll_n, getAll_c, g2_e, mVals_e, kVl_e, vals_n, vals_c, aNil_e, aCons_e, kC1_e, kC2_e, mT_e, kTb_e, tAnd_e, kAn_t, kAn_f, tOr_e, kOr_t, kOr_f, tNot_e, kNt_e, mTru_e, kTr_e, kO_s, dTru_b, mIf_e, kIfe_t, kIfe_f, mAnd_e, kAnd_t, kAnd_f, mOr_e, kOr2_t, kOr2_f, mNot_e, kNot2_e, kFr_o, mFn_e, kF1_e, kFn_e, mFnK_e, kK1_e, v2_e, kK2_e, mMut_e, kMu_e, mMut0_e, oM_e, kMut_e, pNone_e, pSome_e, kPs_e, mCut_e, kCt1_e, kCt2_e, oC3_e, kCt3_e, fM_e, endF_n, endF_r, dAdd_i, dAdd_s, dAdd_l, dAdd_t, dSub_i, dMul_i, dDiv_i, dMod_i, dPow_i, dLt_i, dLe_i, dGt_i, dGe_i, dLt_s, dEq_i, dEq_b, dEq_s, dNe_i, dNe_b, dNe_s, dInt_i, dAbs_i, dLen_l, dLen_r, dLen_t, dLen_s, dIx_l, dIx_r, dIx_t, dList_l, dList_r, dList_t, dTuple_l, dTuple_t, dDispL_e, dDispT_e, dIsN_n, dNotN_n, dIsN_bool, dNotN_bool, dIsN_int, dNotN_int, dIsN_str, dNotN_str, dIsN_lst, dNotN_lst, dIsN_tup, dNotN_tup, dIsi_non, dIsiT_non, dIsi_bool, dIsiT_bool, dIsi_int, dIsiT_int, dIsi_str, dIsiT_str, dIsi_lst, dIsiT_lst, dIsi_rol, dIsiT_rol, dIsi_tup, dIsiT_tup, mChain_e, kH1_e, kH2_e, kH3_t, kH3_f, kH4_e, mM1_e, kM1_e, kM2_e, kM3_e, mJs_n, mJs_c, kJ_e, dFmt_s, dNeg_i, dDivmod_e, dMax2_e, dMin2_e, dCut_l, dCut_r, dCut_t, dCut_s, dPop_e, fApp_e, List.getElem?_cons_zero, List.getElem?_cons_succ, List.set_cons_zero, List.set_cons_succ, Option.bind_some, Option.bind_none, Option.map_some, Option.map_none, List.map_cons, List.map_nil, List.length_cons, List.length_nil, List.replicate, List.cons_append, List.nil_append, List.set_set, if_true, if_false, ite_true, ite_false, reduceIte, Nat.reduceAdd, Nat.reduceSub, Nat.zero_add, Nat.add_zero, Bool.not_true, Bool.not_false, decide_true, decide_false, Bool.true_and, Bool.and_true, Bool.false_and, Bool.and_false, Bool.or_true, Bool.true_or, Bool.or_false, Bool.false_or, eq_self], ?_⟩
      have d1 : ((r : Int) - 1) / 26 = (((r - 1) / 26 : Nat) : Int) := by omega
      have d2 : ((r : Int) - 1) % 26 = (((r - 1) % 26 : Nat) : Int) := by omega
      have cd : CDiv ((r : Int) - 1) 26 = True := eq_true ⟨by decide, by decide⟩
      have cx := chS_at (k := (r - 1) % 26) (by omega)
      have z26 : ((26 : Nat) ≤ sizeLine) = True := lineN (by decide)
      have za : (Str.length (chS ((r - 1) % 26)) ≤ sizeLine) = True := eq_true (by rw [chS_len]; omega)
      have zb : (acc.length ≤ sizeLine) = True := eq_true (by omega)
      have zc : ((chS ((r - 1) % 26) ++ acc).length ≤ sizeLine) = True := eq_true (by rw [app_len, chS_len]; omega)
      have c26 : ((26 : Nat) : Int) = 26 := rfl
      simp only [letN, z26, c26, d1, d2, cd, cx, za, zb, zc, emp_app, b_ok, b_bad, b_ex, f_ok, f_bad, f_ex, n_nx, n_rt, n_bk, n_ct, n_ex, n_bad, l_nx, l_rt, l_bk, l_ct, l_ex, l_bad, sNx_e, sSeq_e, sBk_e, sCt_e, sRetN_e, sExp_e, kExp_e, sRet_e, kRet_e, sIf_e, kIf_t, kIf_f, sSet_e, kSet_e, svOf_t, svOf_f, sSetC_e, kCell_e, sAsg_e, kG1_e, oF_s, oF_n, gN_e, gT_e, gsNil_e, gsCons_e, sPar_e, kPar1_e, kPar2_e, sPar3_e, kPr1_e, kPr2_e, kPr3_e, sPut_e, kPut1_e, kPut2_e, isLst_l, kPut_e, kPt_e, kPu_e, plGet_e, pG_o, pG_c, plS_e, pS_o, pS_f, plC_e, pC_o, pC_c, mFr_e, kFz_e, mVar_e, kVar_f, kVar_o, mMov_e, kMov_f, kMov_o, mBw_e, kBw_f, kBw_o, mCon_e, mOf_e, kOf_e, o2_e, m2_e, k2a_e, k2b_e, kDB_s, kDB_n, fl_e, m1_e, k1a_e, get_dv, get_bw, sv_f, sv_o, sv_n, de_cell, de_non, de_bool, de_int, de_str, de_fn, de_rol, de_lst, de_tup, de_dct, de_dtt, de_ins, mCB_e, kCB_e, getAll_n, getAll_c, g2_e, mVals_e, kVl_e, vals_n, vals_c, aNil_e, aCons_e, kC1_e, kC2_e, mT_e, kTb_e, tAnd_e, kAn_t, kAn_f, tOr_e, kOr_t, kOr_f, tNot_e, kNt_e, mTru_e, kTr_e, kO_s, dTru_b, mIf_e, kIfe_t, kIfe_f, mAnd_e, kAnd_t, kAnd_f, mOr_e, kOr2_t, kOr2_f, mNot_e, kNot2_e, kFr_o, mFn_e, kF1_e, kFn_e, mFnK_e, kK1_e, v2_e, kK2_e, mMut_e, kMu_e, mMut0_e, oM_e, kMut_e, pNone_e, pSome_e, kPs_e, mCut_e, kCt1_e, kCt2_e, oC3_e, kCt3_e, fM_e, endF_n, endF_r, dAdd_i, dAdd_s, dAdd_l, dAdd_t, dSub_i, dMul_i, dDiv_i, dMod_i, dPow_i, dLt_i, dLe_i, dGt_i, dGe_i, dLt_s, dEq_i, dEq_b, dEq_s, dNe_i, dNe_b, dNe_s, dInt_i, dAbs_i, dLen_l, dLen_r, dLen_t, dLen_s, dIx_l, dIx_r, dIx_t, dList_l, dList_r, dList_t, dTuple_l, dTuple_t, dDispL_e, dDispT_e, dIsN_n, dNotN_n, dIsN_bool, dNotN_bool, dIsN_int, dNotN_int, dIsN_str, dNotN_str, dIsN_lst, dNotN_lst, dIsN_tup, dNotN_tup, dIsi_non, dIsiT_non, dIsi_bool, dIsiT_bool, dIsi_int, dIsiT_int, dIsi_str, dIsiT_str, dIsi_lst, dIsiT_lst, dIsi_rol, dIsiT_rol, dIsi_tup, dIsiT_tup, mChain_e, kH1_e, kH2_e, kH3_t, kH3_f, kH4_e, mM1_e, kM1_e, kM2_e, kM3_e, mJs_n, mJs_c, kJ_e, dFmt_s, dNeg_i, dDivmod_e, dMax2_e, dMin2_e, dCut_l, dCut_r, dCut_t, dCut_s, dPop_e, fApp_e, List.getElem?_cons_zero, List.getElem?_cons_succ, List.set_cons_zero, List.set_cons_succ, Option.bind_some, Option.bind_none, Option.map_some, Option.map_none, List.map_cons, List.map_nil, List.length_cons, List.length_nil, List.replicate, List.cons_append, List.nil_append, List.set_set, if_true, if_false, ite_true, ite_false, reduceIte, Nat.reduceAdd, Nat.reduceSub, Nat.zero_add, Nat.add_zero, Bool.not_true, Bool.not_false, decide_true, decide_false, Bool.true_and, Bool.and_true, Bool.false_and, Bool.and_false, Bool.or_true, Bool.true_or, Bool.or_false, Bool.false_or, eq_self]
      refine ⟨(r - 1) / 26, by omega, chS ((r - 1) % 26) ++ acc, _, rfl, rfl, ?_, by rw [app_len, chS_len]; omega⟩
      rw [← e3]
      obtain ⟨q, rfl⟩ : ∃ q, r = q + 1 := ⟨r - 1, by omega⟩
      show nm ((q + 1 - 1) / 26) ((q + 1 - 1) / 26) _ = (if q + 1 = 0 then acc else nm q ((q + 1 - 1) / 26) (chS ((q + 1 - 1) % 26) ++ acc))
      rw [if_neg (by omega)]
      exact nm_f _ _ _ _ (Nat.le_refl _) (by omega)
  unfold f_nth_mark m_nth_mark
  have e1 : sSet 1 (mCon (.str "")) [.fz (.int (i : Int)), .no, .no, .no] c = .nx [.fz (.int (i : Int)), .fz (.str Str.empty), .no, .no] c := by
    simp only [str0, b_ok, b_bad, b_ex, f_ok, f_bad, f_ex, n_nx, n_rt, n_bk, n_ct, n_ex, n_bad, l_nx, l_rt, l_bk, l_ct, l_ex, l_bad, sNx_e, sSeq_e, sBk_e, sCt_e, sRetN_e, sExp_e, kExp_e, sRet_e, kRet_e, sIf_e, kIf_t, kIf_f, sSet_e, kSet_e, svOf_t, svOf_f, sSetC_e, kCell_e, sAsg_e, kG1_e, oF_s, oF_n, gN_e, gT_e, gsNil_e, gsCons_e, sPar_e, kPar1_e, kPar2_e, sPar3_e, kPr1_e, kPr2_e, kPr3_e, sPut_e, kPut1_e, kPut2_e, isLst_l, kPut_e, kPt_e, kPu_e, plGet_e, pG_o, pG_c, plS_e, pS_o, pS_f, plC_e, pC_o, pC_c, mFr_e, kFz_e, mVar_e, kVar_f, kVar_o, mMov_e, kMov_f, kMov_o, mBw_e, kBw_f, kBw_o, mCon_e, mOf_e, kOf_e, o2_e, m2_e, k2a_e, k2b_e, kDB_s, kDB_n, fl_e, m1_e, k1a_e, get_dv, get_bw, sv_f, sv_o, sv_n, de_cell, de_non, de_bool, de_int, de_str, de_fn, de_rol, de_lst, de_tup, de_dct, de_dtt, de_ins, mCB_e, kCB_e, getAll_n, getAll_c, g2_e, mVals_e, kVl_e, vals_n, vals_c, aNil_e, aCons_e, kC1_e, kC2_e, mT_e, kTb_e, tAnd_e, kAn_t, kAn_f, tOr_e, kOr_t, kOr_f, tNot_e, kNt_e, mTru_e, kTr_e, kO_s, dTru_b, mIf_e, kIfe_t, kIfe_f, mAnd_e, kAnd_t, kAnd_f, mOr_e, kOr2_t, kOr2_f, mNot_e, kNot2_e, kFr_o, mFn_e, kF1_e, kFn_e, mFnK_e, kK1_e, v2_e, kK2_e, mMut_e, kMu_e, mMut0_e, oM_e, kMut_e, pNone_e, pSome_e, kPs_e, mCut_e, kCt1_e, kCt2_e, oC3_e, kCt3_e, fM_e, endF_n, endF_r, dAdd_i, dAdd_s, dAdd_l, dAdd_t, dSub_i, dMul_i, dDiv_i, dMod_i, dPow_i, dLt_i, dLe_i, dGt_i, dGe_i, dLt_s, dEq_i, dEq_b, dEq_s, dNe_i, dNe_b, dNe_s, dInt_i, dAbs_i, dLen_l, dLen_r, dLen_t, dLen_s, dIx_l, dIx_r, dIx_t, dList_l, dList_r, dList_t, dTuple_l, dTuple_t, dDispL_e, dDispT_e, dIsN_n, dNotN_n, dIsN_bool, dNotN_bool, dIsN_int, dNotN_int, dIsN_str, dNotN_str, dIsN_lst, dNotN_lst, dIsN_tup, dNotN_tup, dIsi_non, dIsiT_non, dIsi_bool, dIsiT_bool, dIsi_int, dIsiT_int, dIsi_str, dIsiT_str, dIsi_lst, dIsiT_lst, dIsi_rol, dIsiT_rol, dIsi_tup, dIsiT_tup, mChain_e, kH1_e, kH2_e, kH3_t, kH3_f, kH4_e, mM1_e, kM1_e, kM2_e, kM3_e, mJs_n, mJs_c, kJ_e, dFmt_s, dNeg_i, dDivmod_e, dMax2_e, dMin2_e, dCut_l, dCut_r, dCut_t, dCut_s, dPop_e, fApp_e, List.getElem?_cons_zero, List.getElem?_cons_succ, List.set_cons_zero, List.set_cons_succ, Option.bind_some, Option.bind_none, Option.map_some, Option.map_none, List.map_cons, List.map_nil, List.length_cons, List.length_nil, List.replicate, List.cons_append, List.nil_append, List.set_set, if_true, if_false, ite_true, ite_false, reduceIte, Nat.reduceAdd, Nat.reduceSub, Nat.zero_add, Nat.add_zero, Bool.not_true, Bool.not_false, decide_true, decide_false, Bool.true_and, Bool.and_true, Bool.false_and, Bool.and_false, Bool.or_true, Bool.true_or, Bool.or_false, Bool.false_or, eq_self]
  have e2 : sSet 2 (m2 dAdd (mBw 0) (mOf (mCon (.int 1)))) [.fz (.int (i : Int)), .fz (.str Str.empty), .no, .no] c = .nx [.fz (.int (i : Int)), .fz (.str Str.empty), .fz (.int ((i : Int) + 1)), .no] c := by
    simp only [b_ok, b_bad, b_ex, f_ok, f_bad, f_ex, n_nx, n_rt, n_bk, n_ct, n_ex, n_bad, l_nx, l_rt, l_bk, l_ct, l_ex, l_bad, sNx_e, sSeq_e, sBk_e, sCt_e, sRetN_e, sExp_e, kExp_e, sRet_e, kRet_e, sIf_e, kIf_t, kIf_f, sSet_e, kSet_e, svOf_t, svOf_f, sSetC_e, kCell_e, sAsg_e, kG1_e, oF_s, oF_n, gN_e, gT_e, gsNil_e, gsCons_e, sPar_e, kPar1_e, kPar2_e, sPar3_e, kPr1_e, kPr2_e, kPr3_e, sPut_e, kPut1_e, kPut2_e, isLst_l, kPut_e, kPt_e, kPu_e, plGet_e, pG_o, pG_c, plS_e, pS_o, pS_f, plC_e, pC_o, pC_c, mFr_e, kFz_e, mVar_e, kVar_f, kVar_o, mMov_e, kMov_f, kMov_o, mBw_e, kBw_f, kBw_o, mCon_e, mOf_e, kOf_e, o2_e, m2_e, k2a_e, k2b_e, kDB_s, kDB_n, fl_e, m1_e, k1a_e, get_dv, get_bw, sv_f, sv_o, sv_n, de_cell, de_non, de_bool, de_int, de_str, de_fn, de_rol, de_lst, de_tup, de_dct, de_dtt, de_ins, mCB_e, kCB_e, getAll_n, getAll_c, g2_e, mVals_e, kVl_e, vals_n, vals_c, aNil_e, aCons_e, kC1_e, kC2_e, mT_e, kTb_e, tAnd_e, kAn_t, kAn_f, tOr_e, kOr_t, kOr_f, tNot_e, kNt_e, mTru_e, kTr_e, kO_s, dTru_b, mIf_e, kIfe_t, kIfe_f, mAnd_e, kAnd_t, kAnd_f, mOr_e, kOr2_t, kOr2_f, mNot_e, kNot2_e, kFr_o, mFn_e, kF1_e, kFn_e, mFnK_e, kK1_e, v2_e, kK2_e, mMut_e, kMu_e, mMut0_e, oM_e, kMut_e, pNone_e, pSome_e, kPs_e, mCut_e, kCt1_e, kCt2_e, oC3_e, kCt3_e, fM_e, endF_n, endF_r, dAdd_i, dAdd_s, dAdd_l, dAdd_t, dSub_i, dMul_i, dDiv_i, dMod_i, dPow_i, dLt_i, dLe_i, dGt_i, dGe_i, dLt_s, dEq_i, dEq_b, dEq_s, dNe_i, dNe_b, dNe_s, dInt_i, dAbs_i, dLen_l, dLen_r, dLen_t, dLen_s, dIx_l, dIx_r, dIx_t, dList_l, dList_r, dList_t, dTuple_l, dTuple_t, dDispL_e, dDispT_e, dIsN_n, dNotN_n, dIsN_bool, dNotN_bool, dIsN_int, dNotN_int, dIsN_str, dNotN_str, dIsN_lst, dNotN_lst, dIsN_tup, dNotN_tup, dIsi_non, dIsiT_non, dIsi_bool, dIsiT_bool, dIsi_int, dIsiT_int, dIsi_str, dIsiT_str, dIsi_lst, dIsiT_lst, dIsi_rol, dIsiT_rol, dIsi_tup, dIsiT_tup, mChain_e, kH1_e, kH2_e, kH3_t, kH3_f, kH4_e, mM1_e, kM1_e, kM2_e, kM3_e, mJs_n, mJs_c, kJ_e, dFmt_s, dNeg_i, dDivmod_e, dMax2_e, dMin2_e, dCut_l, dCut_r, dCut_t, dCut_s, dPop_e, fApp_e, List.getElem?_cons_zero, List.getElem?_cons_succ, List.set_cons_zero, List.set_cons_succ, Option.bind_some, Option.bind_none, Option.map_some, Option.map_none, List.map_cons, List.map_nil, List.length_cons, List.length_nil, List.replicate, List.cons_append, List.nil_append, List.set_set, if_true, if_false, ite_true, ite_false, reduceIte, Nat.reduceAdd, Nat.reduceSub, Nat.zero_add, Nat.add_zero, Bool.not_true, Bool.not_false, decide_true, decide_false, Bool.true_and, Bool.and_true, Bool.false_and, Bool.and_false, Bool.or_true, Bool.true_or, Bool.or_false, Bool.false_or, eq_self]
  simp only [fM_e, List.map_cons, List.map_nil, List.length_cons, List.length_nil, Nat.reduceAdd, Nat.zero_add, Nat.reduceSub, List.replicate, List.cons_append, List.nil_append, sSeq_e, e1, e2, n_nx]
  refine loop (fun o => endF (o.nxt (sRet (mMov 1))) = .ok (.str (nm (i + 1) (i + 1) Str.empty), false) [] c) fun x3 => ?_
  simp only [b_ok, b_bad, b_ex, f_ok, f_bad, f_ex, n_nx, n_rt, n_bk, n_ct, n_ex, n_bad, l_nx, l_rt, l_bk, l_ct, l_ex, l_bad, sNx_e, sSeq_e, sBk_e, sCt_e, sRetN_e, sExp_e, kExp_e, sRet_e, kRet_e, sIf_e, kIf_t, kIf_f, sSet_e, kSet_e, svOf_t, svOf_f, sSetC_e, kCell_e, sAsg_e, kG1_e, oF_s, oF_n, gN_e, gT_e, gsNil_e, gsCons_e, sPar_e, kPar1_e, kPar2_e, sPar3_e, kPr1_e, kPr2_e, kPr3_e, sPut_e, kPut1_e, kPut2_e, isLst_l, kPut_e, kPt_e, kPu_e, plGet_e, pG_o, pG_c, plS_e, pS_o, pS_f, plC_e, pC_o, pC_c, mFr_e, kFz_e, mVar_e, kVar_f, kVar_o, mMov_e, kMov_f, kMov_o, mBw_e, kBw_f, kBw_o, mCon_e, mOf_e, kOf_e, o2_e, m2_e, k2a_e, k2b_e, kDB_s, kDB_n, fl_e, m1_e, k1a_e, get_dv, get_bw, sv_f, sv_o, sv_n, de_cell, de_non, de_bool, de_int, de_str, de_fn, de_rol, de_lst, de_tup, de_dct, de_dtt, de_ins, mCB_e, kCB_e, getAll_n, getAll_c, g2_e, mVals_e, kVl_e, vals_n, vals_c, aNil_e, aCons_e, kC1_e, kC2_e, mT_e, kTb_e, tAnd_e, kAn_t, kAn_f, tOr_e, kOr_t, kOr_f, tNot_e, kNt_e, mTru_e, kTr_e, kO_s, dTru_b, mIf_e, kIfe_t, kIfe_f, mAnd_e, kAnd_t, kAnd_f, mOr_e, kOr2_t, kOr2_f, mNot_e, kNot2_e, kFr_o, mFn_e, kF1_e, kFn_e, mFnK_e, kK1_e, v2_e, kK2_e, mMut_e, kMu_e, mMut0_e, oM_e, kMut_e, pNone_e, pSome_e, kPs_e, mCut_e, kCt1_e, kCt2_e, oC3_e, kCt3_e, fM_e, endF_n, endF_r, dAdd_i, dAdd_s, dAdd_l, dAdd_t, dSub_i, dMul_i, dDiv_i, dMod_i, dPow_i, dLt_i, dLe_i, dGt_i, dGe_i, dLt_s, dEq_i, dEq_b, dEq_s, dNe_i, dNe_b, dNe_s, dInt_i, dAbs_i, dLen_l, dLen_r, dLen_t, dLen_s, dIx_l, dIx_r, dIx_t, dList_l, dList_r, dList_t, dTuple_l, dTuple_t, dDispL_e, dDispT_e, dIsN_n, dNotN_n, dIsN_bool, dNotN_bool, dIsN_int, dNotN_int, dIsN_str, dNotN_str, dIsN_lst, dNotN_lst, dIsN_tup, dNotN_tup, dIsi_non, dIsiT_non, dIsi_bool, dIsiT_bool, dIsi_int, dIsiT_int, dIsi_str, dIsiT_str, dIsi_lst, dIsiT_lst, dIsi_rol, dIsiT_rol, dIsi_tup, dIsiT_tup, mChain_e, kH1_e, kH2_e, kH3_t, kH3_f, kH4_e, mM1_e, kM1_e, kM2_e, kM3_e, mJs_n, mJs_c, kJ_e, dFmt_s, dNeg_i, dDivmod_e, dMax2_e, dMin2_e, dCut_l, dCut_r, dCut_t, dCut_s, dPop_e, fApp_e, List.getElem?_cons_zero, List.getElem?_cons_succ, List.set_cons_zero, List.set_cons_succ, Option.bind_some, Option.bind_none, Option.map_some, Option.map_none, List.map_cons, List.map_nil, List.length_cons, List.length_nil, List.replicate, List.cons_append, List.nil_append, List.set_set, if_true, if_false, ite_true, ite_false, reduceIte, Nat.reduceAdd, Nat.reduceSub, Nat.zero_add, Nat.add_zero, Bool.not_true, Bool.not_false, decide_true, decide_false, Bool.true_and, Bool.and_true, Bool.false_and, Bool.and_false, Bool.or_true, Bool.true_or, Bool.or_false, Bool.false_or, eq_self]
theorem mk_len : ∀ (s l : Nat) (acc : Str), (mk s l acc).length = s + acc.length
  | 0, l, acc => by show acc.length = _; omega
  | s + 1, l, acc => by
    show (mk s (l / 26) (chS (l % 26) ++ acc)).length = _
    rw [mk_len s, app_len, chS_len]
    omega
theorem mark_ok {i : Nat} {c : CL} (h : i < 1000000) : f__law_mark [.int (i : Int)] c = .ok (.str (nm (i + 1) (i + 1) Str.empty), false) [] c := by
  have hL : sizeLine = 16777216 := sizeLine_eq
  have U6 : U 6 = 321272406 ∧ U 5 = 12356630 := by decide
  have loop1 : ∀ Q : Fl → Prop, (∀ (s l : Nat) (b : Int) (x5 : SV), l < 26 ^ (s + 1) → l + U s = i → s ≤ 8 → Q (.nx [.fz (.int (i : Int)), .fz (.int (l : Int)), .fz (.int b), .fz (.int ((s : Int) + 1)), .fz (.str Str.empty), x5, .no] c)) →
      Q (sFor (iRng1 (aCons (mOf (mCon (.int 8))) aNil)) (gN 5) (sSeq (sIf (mT (m2 dLt (mBw 1) (mBw 2))) sBk sNx) (sPar3 1 2 3 (mFr (m2 dSub (mBw 1) (mBw 2))) (mFr (m2 dMul (mBw 2) (mOf (mCon (.int 26))))) (m2 dAdd (mBw 3) (mOf (mCon (.int 1)))))) [.fz (.int (i : Int)), .fz (.int (i : Int)), .fz (.int 26), .fz (.int 1), .fz (.str Str.empty), .no, .no] c) := by
    intro Q hQ
    refine sFor_go (ds := rngD 0 8) (s1 := [.fz (.int (i : Int)), .fz (.int (i : Int)), .fz (.int 26), .fz (.int 1), .fz (.str Str.empty), .no, .no]) (c1 := c) (iRng1_e (ods := [.dv (.int 8)]) (j := 8) (by simp only [b_ok, b_bad, b_ex, f_ok, f_bad, f_ex, n_nx, n_rt, n_bk, n_ct, n_ex, n_bad, l_nx, l_rt, l_bk, l_ct, l_ex, l_bad, sNx_e, sSeq_e, sBk_e, sCt_e, sRetN_e, sExp_e, kExp_e, sRet_e, kRet_e, sIf_e, kIf_t, kIf_f, sSet_e, kSet_e, svOf_t, svOf_f, sSetC_e, kCell_e, sAsg_e, kG1_e, oF_s, oF_n, gN_e, gT_e, gsNil_e, gsCons_e, sPar_e, kPar1_e, kPar2_e, sPar3_e, kPr1_e, kPr2_e, kPr3_e, sPut_e, kPut1_e, kPut2_e, isLst_l, kPut_e, kPt_e, kPu_e, plGet_e, pG_o, pG_c, plS_e, pS_o, pS_f, plC_e, pC_o, pC_c, mFr_e, kFz_e, mVar_e, kVar_f, kVar_o, mMov_e, kMov_f, kMov_o, mBw_e, kBw_f, kBw_o, mCon_e, mOf_e, kOf_e, o2_e, m2_e, k2a_e, k2b_e, kDB_s, kDB_n, fl_e, m1_e, k1a_e, get_dv, get_bw, sv_f, sv_o, sv_n, de_cell, de_non, de_bool, de_int, de_str, de_fn, de_rol, de_lst, de_tup, de_dct, de_dtt, de_ins, mCB_e, kCB_e, getAll_n, getAll_c, g2_e, mVals_e, kVl_e, vals_n, vals_c, aNil_e, aCons_e, kC1_e, kC2_e, mT_e, kTb_e, tAnd_e, kAn_t, kAn_f, tOr_e, kOr_t, kOr_f, tNot_e, kNt_e, mTru_e, kTr_e, kO_s, dTru_b, mIf_e, kIfe_t, kIfe_f, mAnd_e, kAnd_t, kAnd_f, mOr_e, kOr2_t, kOr2_f, mNot_e, kNot2_e, kFr_o, mFn_e, kF1_e, kFn_e, mFnK_e, kK1_e, v2_e, kK2_e, mMut_e, kMu_e, mMut0_e, oM_e, kMut_e, pNone_e, pSome_e, kPs_e, mCut_e, kCt1_e, kCt2_e, oC3_e, kCt3_e, fM_e, endF_n, endF_r, dAdd_i, dAdd_s, dAdd_l, dAdd_t, dSub_i, dMul_i, dDiv_i, dMod_i, dPow_i, dLt_i, dLe_i, dGt_i, dGe_i, dLt_s, dEq_i, dEq_b, dEq_s, dNe_i, dNe_b, dNe_s, dInt_i, dAbs_i, dLen_l, dLen_r, dLen_t, dLen_s, dIx_l, dIx_r, dIx_t, dList_l, dList_r, dList_t, dTuple_l, dTuple_t, dDispL_e, dDispT_e, dIsN_n, dNotN_n, dIsN_bool, dNotN_bool, dIsN_int, dNotN_int, dIsN_str, dNotN_str, dIsN_lst, dNotN_lst, dIsN_tup, dNotN_tup, dIsi_non, dIsiT_non, dIsi_bool, dIsiT_bool, dIsi_int, dIsiT_int, dIsi_str, dIsiT_str, dIsi_lst, dIsiT_lst, dIsi_rol, dIsiT_rol, dIsi_tup, dIsiT_tup, mChain_e, kH1_e, kH2_e, kH3_t, kH3_f, kH4_e, mM1_e, kM1_e, kM2_e, kM3_e, mJs_n, mJs_c, kJ_e, dFmt_s, dNeg_i, dDivmod_e, dMax2_e, dMin2_e, dCut_l, dCut_r, dCut_t, dCut_s, dPop_e, fApp_e, List.getElem?_cons_zero, List.getElem?_cons_succ, List.set_cons_zero, List.set_cons_succ, Option.bind_some, Option.bind_none, Option.map_some, Option.map_none, List.map_cons, List.map_nil, List.length_cons, List.length_nil, List.replicate, List.cons_append, List.nil_append, List.set_set, if_true, if_false, ite_true, ite_false, reduceIte, Nat.reduceAdd, Nat.reduceSub, Nat.zero_add, Nat.add_zero, Bool.not_true, Bool.not_false, decide_true, decide_false, Bool.true_and, Bool.and_true, Bool.false_and, Bool.and_false, Bool.or_true, Bool.true_or, Bool.or_false, Bool.false_or, eq_self]) (by simp only [b_ok, b_bad, b_ex, f_ok, f_bad, f_ex, n_nx, n_rt, n_bk, n_ct, n_ex, n_bad, l_nx, l_rt, l_bk, l_ct, l_ex, l_bad, sNx_e, sSeq_e, sBk_e, sCt_e, sRetN_e, sExp_e, kExp_e, sRet_e, kRet_e, sIf_e, kIf_t, kIf_f, sSet_e, kSet_e, svOf_t, svOf_f, sSetC_e, kCell_e, sAsg_e, kG1_e, oF_s, oF_n, gN_e, gT_e, gsNil_e, gsCons_e, sPar_e, kPar1_e, kPar2_e, sPar3_e, kPr1_e, kPr2_e, kPr3_e, sPut_e, kPut1_e, kPut2_e, isLst_l, kPut_e, kPt_e, kPu_e, plGet_e, pG_o, pG_c, plS_e, pS_o, pS_f, plC_e, pC_o, pC_c, mFr_e, kFz_e, mVar_e, kVar_f, kVar_o, mMov_e, kMov_f, kMov_o, mBw_e, kBw_f, kBw_o, mCon_e, mOf_e, kOf_e, o2_e, m2_e, k2a_e, k2b_e, kDB_s, kDB_n, fl_e, m1_e, k1a_e, get_dv, get_bw, sv_f, sv_o, sv_n, de_cell, de_non, de_bool, de_int, de_str, de_fn, de_rol, de_lst, de_tup, de_dct, de_dtt, de_ins, mCB_e, kCB_e, getAll_n, getAll_c, g2_e, mVals_e, kVl_e, vals_n, vals_c, aNil_e, aCons_e, kC1_e, kC2_e, mT_e, kTb_e, tAnd_e, kAn_t, kAn_f, tOr_e, kOr_t, kOr_f, tNot_e, kNt_e, mTru_e, kTr_e, kO_s, dTru_b, mIf_e, kIfe_t, kIfe_f, mAnd_e, kAnd_t, kAnd_f, mOr_e, kOr2_t, kOr2_f, mNot_e, kNot2_e, kFr_o, mFn_e, kF1_e, kFn_e, mFnK_e, kK1_e, v2_e, kK2_e, mMut_e, kMu_e, mMut0_e, oM_e, kMut_e, pNone_e, pSome_e, kPs_e, mCut_e, kCt1_e, kCt2_e, oC3_e, kCt3_e, fM_e, endF_n, endF_r, dAdd_i, dAdd_s, dAdd_l, dAdd_t, dSub_i, dMul_i, dDiv_i, dMod_i, dPow_i, dLt_i, dLe_i, dGt_i, dGe_i, dLt_s, dEq_i, dEq_b, dEq_s, dNe_i, dNe_b, dNe_s, dInt_i, dAbs_i, dLen_l, dLen_r, dLen_t, dLen_s, dIx_l, dIx_r, dIx_t, dList_l, dList_r, dList_t, dTuple_l, dTuple_t, dDispL_e, dDispT_e, dIsN_n, dNotN_n, dIsN_bool, dNotN_bool, dIsN_int, dNotN_int, dIsN_str, dNotN_str, dIsN_lst, dNotN_lst, dIsN_tup, dNotN_tup, dIsi_non, dIsiT_non, dIsi_bool, dIsiT_bool, dIsi_int, dIsiT_int, dIsi_str, dIsiT_str, dIsi_lst, dIsiT_lst, dIsi_rol, dIsiT_rol, dIsi_tup, dIsiT_tup, mChain_e, kH1_e, kH2_e, kH3_t, kH3_f, kH4_e, mM1_e, kM1_e, kM2_e, kM3_e, mJs_n, mJs_c, kJ_e, dFmt_s, dNeg_i, dDivmod_e, dMax2_e, dMin2_e, dCut_l, dCut_r, dCut_t, dCut_s, dPop_e, fApp_e, List.getElem?_cons_zero, List.getElem?_cons_succ, List.set_cons_zero, List.set_cons_succ, Option.bind_some, Option.bind_none, Option.map_some, Option.map_none, List.map_cons, List.map_nil, List.length_cons, List.length_nil, List.replicate, List.cons_append, List.nil_append, List.set_set, if_true, if_false, ite_true, ite_false, reduceIte, Nat.reduceAdd, Nat.reduceSub, Nat.zero_add, Nat.add_zero, Bool.not_true, Bool.not_false, decide_true, decide_false, Bool.true_and, Bool.and_true, Bool.false_and, Bool.and_false, Bool.or_true, Bool.true_or, Bool.or_false, Bool.false_or, eq_self]) (by decide))
      (fun t s c' => ∃ (l bl : Nat) (x5 : SV), s = [.fz (.int (i : Int)), .fz (.int (l : Int)), .fz (.int (bl : Int)), .fz (.int ((t : Int) + 1)), .fz (.str Str.empty), x5, .no] ∧ c' = c ∧ l + U t = i ∧ bl = 26 ^ (t + 1)) Q
      ⟨i, 26, .no, rfl, rfl, rfl, rfl⟩ (fun s c' ⟨l, bl, x5, _, _, e, _⟩ => ?_) fun t d s c' hd ⟨l, bl, x5, e1, e2, e3, e4⟩ => ?_
    · exfalso
      have e' : l + U 8 = i := e
      have : U 8 = 26 * (1 + 26 * (1 + U 6)) := rfl
      omega
    · subst e1 e2
      refine ⟨_, rfl, ?_⟩
      have ht : t < 8 := by
        have := (List.getElem?_eq_some_iff.mp hd).1
        rw [rngD_len] at this
        exact this
      by_cases hb : l < bl
      · have g : ((l : Int) < (bl : Int)) = True := eq_true (by omega)
        simp only [g, b_ok, b_bad, b_ex, f_ok, f_bad, f_ex, n_nx, n_rt, n_bk, n_ct, n_ex, n_bad, l_nx, l_rt, l_bk, l_ct, l_ex, l_bad, sNx_e, sSeq_e, sBk_e, sCt_e, sRetN_e, sExp_e, kExp_e, sRet_e, kRet_e, sIf_e, kIf_t, kIf_f, sSet_e, kSet_e, svOf_t, svOf_f, sSetC_e, kCell_e, sAsg_e, kG1_e, oF_s, oF_n, gN_e, gT_e, gsNil_e, gsCons_e, sPar_e, kPar1_e, kPar2_e, sPar3_e, kPr1_e, kPr2_e, kPr3_e, sPut_e, kPut1_e, kPut2_e, isLst_l, kPut_e, kPt_e, kPu_e, plGet_e, pG_o, pG_c, plS_e, pS_o, pS_f, plC_e, pC_o, pC_c, mFr_e, kFz_e, mVar_e, kVar_f, kVar_o, mMov_e, kMov_f, kMov_o, mBw_e, kBw_f, kBw_o, mCon_e, mOf_e, kOf_e, o2_e, m2_e, k2a_e, k2b_e, kDB_s, kDB_n, fl_e, m1_e, k1a_e, get_dv, get_bw, sv_f, sv_o, sv_n, de_cell, de_non, de_bool, de_int, de_str, de_fn, de_rol, de_lst, de_tup, de_dct, de_dtt, de_ins, mCB_e, kCB_e, getAll_n, getAll_c, g2_e, mVals_e, kVl_e, vals_n, vals_c, aNil_e, aCons_e, kC1_e, kC2_e, mT_e, kTb_e, tAnd_e, kAn_t, kAn_f, tOr_e, kOr_t, kOr_f, tNot_e, kNt_e, mTru_e, kTr_e, kO_s, dTru_b, mIf_e, kIfe_t, kIfe_f, mAnd_e, kAnd_t, kAnd_f, mOr_e, kOr2_t, kOr2_f, mNot_e, kNot2_e, kFr_o, mFn_e, kF1_e, kFn_e, mFnK_e, kK1_e, v2_e, kK2_e, mMut_e, kMu_e, mMut0_e, oM_e, kMut_e, pNone_e, pSome_e, kPs_e, mCut_e, kCt1_e, kCt2_e, oC3_e, kCt3_e, fM_e, endF_n, endF_r, dAdd_i, dAdd_s, dAdd_l, dAdd_t, dSub_i, dMul_i, dDiv_i, dMod_i, dPow_i, dLt_i, dLe_i, dGt_i, dGe_i, dLt_s, dEq_i, dEq_b, dEq_s, dNe_i, dNe_b, dNe_s, dInt_i, dAbs_i, dLen_l, dLen_r, dLen_t, dLen_s, dIx_l, dIx_r, dIx_t, dList_l, dList_r, dList_t, dTuple_l, dTuple_t, dDispL_e, dDispT_e, dIsN_n, dNotN_n, dIsN_bool, dNotN_bool, dIsN_int, dNotN_int, dIsN_str, dNotN_str, dIsN_lst, dNotN_lst, dIsN_tup, dNotN_tup, dIsi_non, dIsiT_non, dIsi_bool, dIsiT_bool, dIsi_int, dIsiT_int, dIsi_str, dIsiT_str, dIsi_lst, dIsiT_lst, dIsi_rol, dIsiT_rol, dIsi_tup, dIsiT_tup, mChain_e, kH1_e, kH2_e, kH3_t, kH3_f, kH4_e, mM1_e, kM1_e, kM2_e, kM3_e, mJs_n, mJs_c, kJ_e, dFmt_s, dNeg_i, dDivmod_e, dMax2_e, dMin2_e, dCut_l, dCut_r, dCut_t, dCut_s, dPop_e, fApp_e, List.getElem?_cons_zero, List.getElem?_cons_succ, List.set_cons_zero, List.set_cons_succ, Option.bind_some, Option.bind_none, Option.map_some, Option.map_none, List.map_cons, List.map_nil, List.length_cons, List.length_nil, List.replicate, List.cons_append, List.nil_append, List.set_set, if_true, if_false, ite_true, ite_false, reduceIte, Nat.reduceAdd, Nat.reduceSub, Nat.zero_add, Nat.add_zero, Bool.not_true, Bool.not_false, decide_true, decide_false, Bool.true_and, Bool.and_true, Bool.false_and, Bool.and_false, Bool.or_true, Bool.true_or, Bool.or_false, Bool.false_or, eq_self]
        exact hQ t l _ _ (by rw [← e4]; exact hb) e3 (by omega)
      · have g : ((l : Int) < (bl : Int)) = False := eq_false (by omega)
        have cm : CMulS (bl : Int) 26 = True := eq_true (cmulR (by decide))
        have f1 : (l : Int) - (bl : Int) = ((l - bl : Nat) : Int) := by omega
        have f2 : (bl : Int) * 26 = ((bl * 26 : Nat) : Int) := by omega
        have ef : ((t : Int) + 1 + 1) = (((t + 1 : Nat) : Int) + 1) := by omega
        simp only [g, cm, f1, f2, ef, b_ok, b_bad, b_ex, f_ok, f_bad, f_ex, n_nx, n_rt, n_bk, n_ct, n_ex, n_bad, l_nx, l_rt, l_bk, l_ct, l_ex, l_bad, sNx_e, sSeq_e, sBk_e, sCt_e, sRetN_e, sExp_e, kExp_e, sRet_e, kRet_e, sIf_e, kIf_t, kIf_f, sSet_e, kSet_e, svOf_t, svOf_f, sSetC_e, kCell_e, sAsg_e, kG1_e, oF_s, oF_n, gN_e, gT_e, gsNil_e, gsCons_e, sPar_e, kPar1_e, kPar2_e, sPar3_e, kPr1_e, kPr2_e, kPr3_e, sPut_e, kPut1_e, kPut2_e, isLst_l, kPut_e, kPt_e, kPu_e, plGet_e, pG_o, pG_c, plS_e, pS_o, pS_f, plC_e, pC_o, pC_c, mFr_e, kFz_e, mVar_e, kVar_f, kVar_o, mMov_e, kMov_f, kMov_o, mBw_e, kBw_f, kBw_o, mCon_e, mOf_e, kOf_e, o2_e, m2_e, k2a_e, k2b_e, kDB_s, kDB_n, fl_e, m1_e, k1a_e, get_dv, get_bw, sv_f, sv_o, sv_n, de_cell, de_non, de_bool, de_int, de_str, de_fn, de_rol, de_lst, de_tup, de_dct, de_dtt, de_ins, mCB_e, kCB_e, getAll_n, getAll_c, g2_e, mVals_e, kVl_e, vals_n, vals_c, aNil_e, aCons_e, kC1_e, kC2_e, mT_e, kTb_e, tAnd_e, kAn_t, kAn_f, tOr_e, kOr_t, kOr_f, tNot_e, kNt_e, mTru_e, kTr_e, kO_s, dTru_b, mIf_e, kIfe_t, kIfe_f, mAnd_e, kAnd_t, kAnd_f, mOr_e, kOr2_t, kOr2_f, mNot_e, kNot2_e, kFr_o, mFn_e, kF1_e, kFn_e, mFnK_e, kK1_e, v2_e, kK2_e, mMut_e, kMu_e, mMut0_e, oM_e, kMut_e, pNone_e, pSome_e, kPs_e, mCut_e, kCt1_e, kCt2_e, oC3_e, kCt3_e, fM_e, endF_n, endF_r, dAdd_i, dAdd_s, dAdd_l, dAdd_t, dSub_i, dMul_i, dDiv_i, dMod_i, dPow_i, dLt_i, dLe_i, dGt_i, dGe_i, dLt_s, dEq_i, dEq_b, dEq_s, dNe_i, dNe_b, dNe_s, dInt_i, dAbs_i, dLen_l, dLen_r, dLen_t, dLen_s, dIx_l, dIx_r, dIx_t, dList_l, dList_r, dList_t, dTuple_l, dTuple_t, dDispL_e, dDispT_e, dIsN_n, dNotN_n, dIsN_bool, dNotN_bool, dIsN_int, dNotN_int, dIsN_str, dNotN_str, dIsN_lst, dNotN_lst, dIsN_tup, dNotN_tup, dIsi_non, dIsiT_non, dIsi_bool, dIsiT_bool, dIsi_int, dIsiT_int, dIsi_str, dIsiT_str, dIsi_lst, dIsiT_lst, dIsi_rol, dIsiT_rol, dIsi_tup, dIsiT_tup, mChain_e, kH1_e, kH2_e, kH3_t, kH3_f, kH4_e, mM1_e, kM1_e, kM2_e, kM3_e, mJs_n, mJs_c, kJ_e, dFmt_s, dNeg_i, dDivmod_e, dMax2_e, dMin2_e, dCut_l, dCut_r, dCut_t, dCut_s, dPop_e, fApp_e, List.getElem?_cons_zero, List.getElem?_cons_succ, List.set_cons_zero, List.set_cons_succ, Option.bind_some, Option.bind_none, Option.map_some, Option.map_none, List.map_cons, List.map_nil, List.length_cons, List.length_nil, List.replicate, List.cons_append, List.nil_append, List.set_set, if_true, if_false, ite_true, ite_false, reduceIte, Nat.reduceAdd, Nat.reduceSub, Nat.zero_add, Nat.add_zero, Bool.not_true, Bool.not_false, decide_true, decide_false, Bool.true_and, Bool.and_true, Bool.false_and, Bool.and_false, Bool.or_true, Bool.true_or, Bool.or_false, Bool.false_or, eq_self]
        have UU : ∀ t, U (t + 1) = U t + 26 ^ (t + 1) := by
          intro t
          induction t with
          | zero => rfl
          | succ t ih =>
            have a1 : U (t + 1 + 1) = 26 * (1 + U (t + 1)) := rfl
            have a2 : U (t + 1) = 26 * (1 + U t) := rfl
            rw [a1, Nat.pow_succ 26 (t + 1)]
            omega
        refine ⟨l - bl, bl * 26, .fz d, rfl, rfl, ?_, ?_⟩
        · rw [UU, ← e4]
          omega
        · rw [e4, ← Nat.pow_succ]
  unfold f__law_mark m__law_mark
  have z4 : ((4 : Nat) ≤ sizeLine) = True := lineN (by decide)
  have e1 : sAsg (gT 4 (gsCons (gN 1) (gsCons (gN 2) (gsCons (gN 3) (gsCons (gN 4) gsNil))))) (mVals dDispT (aCons (mOf (mVar 0)) (aCons (mOf (mCon (.int 26))) (aCons (mOf (mCon (.int 1))) (aCons (mOf (mCon (.str ""))) aNil))))) [.fz (.int (i : Int)), .no, .no, .no, .no, .no, .no] c = .nx [.fz (.int (i : Int)), .fz (.int (i : Int)), .fz (.int 26), .fz (.int 1), .fz (.str Str.empty), .no, .no] c := by
    simp only [z4, str0, b_ok, b_bad, b_ex, f_ok, f_bad, f_ex, n_nx, n_rt, n_bk, n_ct, n_ex, n_bad, l_nx, l_rt, l_bk, l_ct, l_ex, l_bad, sNx_e, sSeq_e, sBk_e, sCt_e, sRetN_e, sExp_e, kExp_e, sRet_e, kRet_e, sIf_e, kIf_t, kIf_f, sSet_e, kSet_e, svOf_t, svOf_f, sSetC_e, kCell_e, sAsg_e, kG1_e, oF_s, oF_n, gN_e, gT_e, gsNil_e, gsCons_e, sPar_e, kPar1_e, kPar2_e, sPar3_e, kPr1_e, kPr2_e, kPr3_e, sPut_e, kPut1_e, kPut2_e, isLst_l, kPut_e, kPt_e, kPu_e, plGet_e, pG_o, pG_c, plS_e, pS_o, pS_f, plC_e, pC_o, pC_c, mFr_e, kFz_e, mVar_e, kVar_f, kVar_o, mMov_e, kMov_f, kMov_o, mBw_e, kBw_f, kBw_o, mCon_e, mOf_e, kOf_e, o2_e, m2_e, k2a_e, k2b_e, kDB_s, kDB_n, fl_e, m1_e, k1a_e, get_dv, get_bw, sv_f, sv_o, sv_n, de_cell, de_non, de_bool, de_int, de_str, de_fn, de_rol, de_lst, de_tup, de_dct, de_dtt, de_ins, mCB_e, kCB_e, getAll_n, getAll_c, g2_e, mVals_e, kVl_e, vals_n, vals_c, aNil_e, aCons_e, kC1_e, kC2_e, mT_e, kTb_e, tAnd_e, kAn_t, kAn_f, tOr_e, kOr_t, kOr_f, tNot_e, kNt_e, mTru_e, kTr_e, kO_s, dTru_b, mIf_e, kIfe_t, kIfe_f, mAnd_e, kAnd_t, kAnd_f, mOr_e, kOr2_t, kOr2_f, mNot_e, kNot2_e, kFr_o, mFn_e, kF1_e, kFn_e, mFnK_e, kK1_e, v2_e, kK2_e, mMut_e, kMu_e, mMut0_e, oM_e, kMut_e, pNone_e, pSome_e, kPs_e, mCut_e, kCt1_e, kCt2_e, oC3_e, kCt3_e, fM_e, endF_n, endF_r, dAdd_i, dAdd_s, dAdd_l, dAdd_t, dSub_i, dMul_i, dDiv_i, dMod_i, dPow_i, dLt_i, dLe_i, dGt_i, dGe_i, dLt_s, dEq_i, dEq_b, dEq_s, dNe_i, dNe_b, dNe_s, dInt_i, dAbs_i, dLen_l, dLen_r, dLen_t, dLen_s, dIx_l, dIx_r, dIx_t, dList_l, dList_r, dList_t, dTuple_l, dTuple_t, dDispL_e, dDispT_e, dIsN_n, dNotN_n, dIsN_bool, dNotN_bool, dIsN_int, dNotN_int, dIsN_str, dNotN_str, dIsN_lst, dNotN_lst, dIsN_tup, dNotN_tup, dIsi_non, dIsiT_non, dIsi_bool, dIsiT_bool, dIsi_int, dIsiT_int, dIsi_str, dIsiT_str, dIsi_lst, dIsiT_lst, dIsi_rol, dIsiT_rol, dIsi_tup, dIsiT_tup, mChain_e, kH1_e, kH2_e, kH3_t, kH3_f, kH4_e, mM1_e, kM1_e, kM2_e, kM3_e, mJs_n, mJs_c, kJ_e, dFmt_s, dNeg_i, dDivmod_e, dMax2_e, dMin2_e, dCut_l, dCut_r, dCut_t, dCut_s, dPop_e, fApp_e, List.getElem?_cons_zero, List.getElem?_cons_succ, List.set_cons_zero, List.set_cons_succ, Option.bind_some, Option.bind_none, Option.map_some, Option.map_none, List.map_cons, List.map_nil, List.length_cons, List.length_nil, List.replicate, List.cons_append, List.nil_append, List.set_set, if_true, if_false, ite_true, ite_false, reduceIte, Nat.reduceAdd, Nat.reduceSub, Nat.zero_add, Nat.add_zero, Bool.not_true, Bool.not_false, decide_true, decide_false, Bool.true_and, Bool.and_true, Bool.false_and, Bool.and_false, Bool.or_true, Bool.true_or, Bool.or_false, Bool.false_or, eq_self]
  simp only [fM_e, List.map_cons, List.map_nil, List.length_cons, List.length_nil, Nat.reduceAdd, Nat.zero_add, Nat.reduceSub, List.replicate, List.cons_append, List.nil_append, sSeq_e, e1, n_nx]
  refine loop1 (fun o => endF (o.nxt (sSeq (sFor (iRng1 (aCons (mBw 3) aNil)) (gN 6) (sSeq (sSet 4 (m2 dAdd (mOf (m2 dIx (mOf (mCon (.str "abcdefghijklmnopqrstuvwxyz"))) (mOf (m2 dMod (mOf (mCB dInt (aCons (mBw 1) aNil))) (mOf (mCon (.int 26))))))) (mBw 4))) (sSet 1 (m2 dDiv (mBw 1) (mOf (mCon (.int 26))))))) (sRet (mMov 4)))) = .ok (.str (nm (i + 1) (i + 1) Str.empty), false) [] c) fun s l b x5 hl hi hs => ?_
  rw [n_nx, sSeq_e]
  have em : nm (i + 1) (i + 1) Str.empty = mk (s + 1) l Str.empty := by
    rw [← hi]
    exact nm_mk s l _ _ hl (Nat.le_refl _)
  rw [em]
  refine sFor_go (ds := rngD 0 (s + 1)) (s1 := [.fz (.int (i : Int)), .fz (.int (l : Int)), .fz (.int b), .fz (.int ((s : Int) + 1)), .fz (.str Str.empty), x5, .no]) (c1 := c) ?_
    (fun j s2 c' => ∃ (m : Nat) (acc : Str) (x6 : SV), s2 = [.fz (.int (i : Int)), .fz (.int (m : Int)), .fz (.int b), .fz (.int ((s : Int) + 1)), .fz (.str acc), x5, x6] ∧ c' = c ∧ acc.length = j ∧ j ≤ s + 1 ∧ mk (s + 1 - j) m acc = mk (s + 1) l Str.empty)
    (fun o => endF (o.nxt (sRet (mMov 4))) = .ok (.str (mk (s + 1) l Str.empty), false) [] c) ⟨l, Str.empty, .no, rfl, rfl, rfl, Nat.zero_le _, rfl⟩ (fun s2 c' ⟨m, acc, x6, a1, a2, a3, a4, a5⟩ => ?_) fun j d s2 c' hd ⟨m, acc, x6, a1, a2, a3, a4, a5⟩ => ?_
  · have := iRng1_e (m := aCons (mBw 3) aNil) (s := [.fz (.int (i : Int)), .fz (.int (l : Int)), .fz (.int b), .fz (.int ((s : Int) + 1)), .fz (.str Str.empty), x5, .no]) (s1 := [.fz (.int (i : Int)), .fz (.int (l : Int)), .fz (.int b), .fz (.int ((s : Int) + 1)), .fz (.str Str.empty), x5, .no]) (c := c) (c1 := c) (ods := [.bw 3]) (j := (s : Int) + 1) (by simp only [b_ok, b_bad, b_ex, f_ok, f_bad, f_ex, n_nx, n_rt, n_bk, n_ct, n_ex, n_bad, l_nx, l_rt, l_bk, l_ct, l_ex, l_bad, sNx_e, sSeq_e, sBk_e, sCt_e, sRetN_e, sExp_e, kExp_e, sRet_e, kRet_e, sIf_e, kIf_t, kIf_f, sSet_e, kSet_e, svOf_t, svOf_f, sSetC_e, kCell_e, sAsg_e, kG1_e, oF_s, oF_n, gN_e, gT_e, gsNil_e, gsCons_e, sPar_e, kPar1_e, kPar2_e, sPar3_e, kPr1_e, kPr2_e, kPr3_e, sPut_e, kPut1_e, kPut2_e, isLst_l, kPut_e, kPt_e, kPu_e, plGet_e, pG_o, pG_c, plS_e, pS_o, pS_f, plC_e, pC_o, pC_c, mFr_e, kFz_e, mVar_e, kVar_f, kVar_o, mMov_e, kMov_f, kMov_o, mBw_e, kBw_f, kBw_o, mCon_e, mOf_e, kOf_e, o2_e, m2_e, k2a_e, k2b_e, kDB_s, kDB_n, fl_e, m1_e, k1a_e, get_dv, get_bw, sv_f, sv_o, sv_n, de_cell, de_non, de_bool, de_int, de_str, de_fn, de_rol, de_lst, de_tup, de_dct, de_dtt, de_ins, mCB_e, kCB_e, getAll_n, getAll_c, g2_e, mVals_e, kVl_e, vals_n, vals_c, aNil_e, aCons_e, kC1_e, kC2_e, mT_e, kTb_e, tAnd_e, kAn_t, kAn_f, tOr_e, kOr_t, kOr_f, tNot_e, kNt_e, mTru_e, kTr_e, kO_s, dTru_b, mIf_e, kIfe_t, kIfe_f, mAnd_e, kAnd_t, kAnd_f, mOr_e, kOr2_t, kOr2_f, mNot_e, kNot2_e, kFr_o, mFn_e, kF1_e, kFn_e, mFnK_e, kK1_e, v2_e, kK2_e, mMut_e, kMu_e, mMut0_e, oM_e, kMut_e, pNone_e, pSome_e, kPs_e, mCut_e, kCt1_e, kCt2_e, oC3_e, kCt3_e, fM_e, endF_n, endF_r, dAdd_i, dAdd_s, dAdd_l, dAdd_t, dSub_i, dMul_i, dDiv_i, dMod_i, dPow_i, dLt_i, dLe_i, dGt_i, dGe_i, dLt_s, dEq_i, dEq_b, dEq_s, dNe_i, dNe_b, dNe_s, dInt_i, dAbs_i, dLen_l, dLen_r, dLen_t, dLen_s, dIx_l, dIx_r, dIx_t, dList_l, dList_r, dList_t, dTuple_l, dTuple_t, dDispL_e, dDispT_e, dIsN_n, dNotN_n, dIsN_bool, dNotN_bool, dIsN_int, dNotN_int, dIsN_str, dNotN_str, dIsN_lst, dNotN_lst, dIsN_tup, dNotN_tup, dIsi_non, dIsiT_non, dIsi_bool, dIsiT_bool, dIsi_int, dIsiT_int, dIsi_str, dIsiT_str, dIsi_lst, dIsiT_lst, dIsi_rol, dIsiT_rol, dIsi_tup, dIsiT_tup, mChain_e, kH1_e, kH2_e, kH3_t, kH3_f, kH4_e, mM1_e, kM1_e, kM2_e, kM3_e, mJs_n, mJs_c, kJ_e, dFmt_s, dNeg_i, dDivmod_e, dMax2_e, dMin2_e, dCut_l, dCut_r, dCut_t, dCut_s, dPop_e, fApp_e, List.getElem?_cons_zero, List.getElem?_cons_succ, List.set_cons_zero, List.set_cons_succ, Option.bind_some, Option.bind_none, Option.map_some, Option.map_none, List.map_cons, List.map_nil, List.length_cons, List.length_nil, List.replicate, List.cons_append, List.nil_append, List.set_set, if_true, if_false, ite_true, ite_false, reduceIte, Nat.reduceAdd, Nat.reduceSub, Nat.zero_add, Nat.add_zero, Bool.not_true, Bool.not_false, decide_true, decide_false, Bool.true_and, Bool.and_true, Bool.false_and, Bool.and_false, Bool.or_true, Bool.true_or, Bool.or_false, Bool.false_or, eq_self]) (by simp only [b_ok, b_bad, b_ex, f_ok, f_bad, f_ex, n_nx, n_rt, n_bk, n_ct, n_ex, n_bad, l_nx, l_rt, l_bk, l_ct, l_ex, l_bad, sNx_e, sSeq_e, sBk_e, sCt_e, sRetN_e, sExp_e, kExp_e, sRet_e, kRet_e, sIf_e, kIf_t, kIf_f, sSet_e, kSet_e, svOf_t, svOf_f, sSetC_e, kCell_e, sAsg_e, kG1_e, oF_s, oF_n, gN_e, gT_e, gsNil_e, gsCons_e, sPar_e, kPar1_e, kPar2_e, sPar3_e, kPr1_e, kPr2_e, kPr3_e, sPut_e, kPut1_e, kPut2_e, isLst_l, kPut_e, kPt_e, kPu_e, plGet_e, pG_o, pG_c, plS_e, pS_o, pS_f, plC_e, pC_o, pC_c, mFr_e, kFz_e, mVar_e, kVar_f, kVar_o, mMov_e, kMov_f, kMov_o, mBw_e, kBw_f, kBw_o, mCon_e, mOf_e, kOf_e, o2_e, m2_e, k2a_e, k2b_e, kDB_s, kDB_n, fl_e, m1_e, k1a_e, get_dv, get_bw, sv_f, sv_o, sv_n, de_cell, de_non, de_bool, de_int, de_str, de_fn, de_rol, de_lst, de_tup, de_dct, de_dtt, de_ins, mCB_e, kCB_e, getAll_n, getAll_c, g2_e, mVals_e, kVl_e, vals_n, vals_c, aNil_e, aCons_e, kC1_e, kC2_e, mT_e, kTb_e, tAnd_e, kAn_t, kAn_f, tOr_e, kOr_t, kOr_f, tNot_e, kNt_e, mTru_e, kTr_e, kO_s, dTru_b, mIf_e, kIfe_t, kIfe_f, mAnd_e, kAnd_t, kAnd_f, mOr_e, kOr2_t, kOr2_f, mNot_e, kNot2_e, kFr_o, mFn_e, kF1_e, kFn_e, mFnK_e, kK1_e, v2_e, kK2_e, mMut_e, kMu_e, mMut0_e, oM_e, kMut_e, pNone_e, pSome_e, kPs_e, mCut_e, kCt1_e, kCt2_e, oC3_e, kCt3_e, fM_e, endF_n, endF_r, dAdd_i, dAdd_s, dAdd_l, dAdd_t, dSub_i, dMul_i, dDiv_i, dMod_i, dPow_i, dLt_i, dLe_i, dGt_i, dGe_i, dLt_s, dEq_i, dEq_b, dEq_s, dNe_i, dNe_b, dNe_s, dInt_i, dAbs_i, dLen_l, dLen_r, dLen_t, dLen_s, dIx_l, dIx_r, dIx_t, dList_l, dList_r, dList_t, dTuple_l, dTuple_t, dDispL_e, dDispT_e, dIsN_n, dNotN_n, dIsN_bool, dNotN_bool, dIsN_int, dNotN_int, dIsN_str, dNotN_str, dIsN_lst, dNotN_lst, dIsN_tup, dNotN_tup, dIsi_non, dIsiT_non, dIsi_bool, dIsiT_bool, dIsi_int, dIsiT_int, dIsi_str, dIsiT_str, dIsi_lst, dIsiT_lst, dIsi_rol, dIsiT_rol, dIsi_tup, dIsiT_tup, mChain_e, kH1_e, kH2_e, kH3_t, kH3_f, kH4_e, mM1_e, kM1_e, kM2_e, kM3_e, mJs_n, mJs_c, kJ_e, dFmt_s, dNeg_i, dDivmod_e, dMax2_e, dMin2_e, dCut_l, dCut_r, dCut_t, dCut_s, dPop_e, fApp_e, List.getElem?_cons_zero, List.getElem?_cons_succ, List.set_cons_zero, List.set_cons_succ, Option.bind_some, Option.bind_none, Option.map_some, Option.map_none, List.map_cons, List.map_nil, List.length_cons, List.length_nil, List.replicate, List.cons_append, List.nil_append, List.set_set, if_true, if_false, ite_true, ite_false, reduceIte, Nat.reduceAdd, Nat.reduceSub, Nat.zero_add, Nat.add_zero, Bool.not_true, Bool.not_false, decide_true, decide_false, Bool.true_and, Bool.and_true, Bool.false_and, Bool.and_false, Bool.or_true, Bool.true_or, Bool.or_false, Bool.false_or, eq_self]) (by omega)
    rw [this]
    have : ((s : Int) + 1).toNat = s + 1 := by omega
    rw [this]
  · subst a1 a2
    rw [rngD_len] at a3 a5
    rw [Nat.sub_self] at a5
    have a5' : acc = mk (s + 1) l Str.empty := a5
    simp only [a5', b_ok, b_bad, b_ex, f_ok, f_bad, f_ex, n_nx, n_rt, n_bk, n_ct, n_ex, n_bad, l_nx, l_rt, l_bk, l_ct, l_ex, l_bad, sNx_e, sSeq_e, sBk_e, sCt_e, sRetN_e, sExp_e, kExp_e, sRet_e, kRet_e, sIf_e, kIf_t, kIf_f, sSet_e, kSet_e, svOf_t, svOf_f, sSetC_e, kCell_e, sAsg_e, kG1_e, oF_s, oF_n, gN_e, gT_e, gsNil_e, gsCons_e, sPar_e, kPar1_e, kPar2_e, sPar3_e, kPr1_e, kPr2_e, kPr3_e, sPut_e, kPut1_e, kPut2_e, isLst_l, kPut_e, kPt_e, kPu_e, plGet_e, pG_o, pG_c, plS_e, pS_o, pS_f, plC_e, pC_o, pC_c, mFr_e, kFz_e, mVar_e, kVar_f, kVar_o, mMov_e, kMov_f, kMov_o, mBw_e, kBw_f, kBw_o, mCon_e, mOf_e, kOf_e, o2_e, m2_e, k2a_e, k2b_e, kDB_s, kDB_n, fl_e, m1_e, k1a_e, get_dv, get_bw, sv_f, sv_o, sv_n, de_cell, de_non, de_bool, de_int, de_str, de_fn, de_rol, de_lst, de_tup, de_dct, de_dtt, de_ins, mCB_e, kCB_e, getAll_n, getAll_c, g2_e, mVals_e, kVl_e, vals_n, vals_c, aNil_e, aCons_e, kC1_e, kC2_e, mT_e, kTb_e, tAnd_e, kAn_t, kAn_f, tOr_e, kOr_t, kOr_f, tNot_e, kNt_e, mTru_e, kTr_e, kO_s, dTru_b, mIf_e, kIfe_t, kIfe_f, mAnd_e, kAnd_t, kAnd_f, mOr_e, kOr2_t, kOr2_f, mNot_e, kNot2_e, kFr_o, mFn_e, kF1_e, kFn_e, mFnK_e, kK1_e, v2_e, kK2_e, mMut_e, kMu_e, mMut0_e, oM_e, kMut_e, pNone_e, pSome_e, kPs_e, mCut_e, kCt1_e, kCt2_e, oC3_e, kCt3_e, fM_e, endF_n, endF_r, dAdd_i, dAdd_s, dAdd_l, dAdd_t, dSub_i, dMul_i, dDiv_i, dMod_i, dPow_i, dLt_i, dLe_i, dGt_i, dGe_i, dLt_s, dEq_i, dEq_b, dEq_s, dNe_i, dNe_b, dNe_s, dInt_i, dAbs_i, dLen_l, dLen_r, dLen_t, dLen_s, dIx_l, dIx_r, dIx_t, dList_l, dList_r, dList_t, dTuple_l, dTuple_t, dDispL_e, dDispT_e, dIsN_n, dNotN_n, dIsN_bool, dNotN_bool, dIsN_int, dNotN_int, dIsN_str, dNotN_str, dIsN_lst, dNotN_lst, dIsN_tup, dNotN_tup, dIsi_non, dIsiT_non, dIsi_bool, dIsiT_bool, dIsi_int, dIsiT_int, dIsi_str, dIsiT_str, dIsi_lst, dIsiT_lst, dIsi_rol, dIsiT_rol, dIsi_tup, dIsiT_tup, mChain_e, kH1_e, kH2_e, kH3_t, kH3_f, kH4_e, mM1_e, kM1_e, kM2_e, kM3_e, mJs_n, mJs_c, kJ_e, dFmt_s, dNeg_i, dDivmod_e, dMax2_e, dMin2_e, dCut_l, dCut_r, dCut_t, dCut_s, dPop_e, fApp_e, List.getElem?_cons_zero, List.getElem?_cons_succ, List.set_cons_zero, List.set_cons_succ, Option.bind_some, Option.bind_none, Option.map_some, Option.map_none, List.map_cons, List.map_nil, List.length_cons, List.length_nil, List.replicate, List.cons_append, List.nil_append, List.set_set, if_true, if_false, ite_true, ite_false, reduceIte, Nat.reduceAdd, Nat.reduceSub, Nat.zero_add, Nat.add_zero, Bool.not_true, Bool.not_false, decide_true, decide_false, Bool.true_and, Bool.and_true, Bool.false_and, Bool.and_false, Bool.or_true, Bool.true_or, Bool.or_false, Bool.false_or, eq_self]
  · subst a1 a2
    have hj : j < s + 1 := by
      have := (List.getElem?_eq_some_iff.mp hd).1
      rw [rngD_len] at this
      exact this
    refine ⟨_, rfl, ?_⟩
    have p26 : ((0 : Int) < 26) = True := by decide
    have cd : CDivW (m : Int) 26 = True := eq_true (cdiv (by decide) (by decide))
    have d1 : (m : Int) / 26 = ((m / 26 : Nat) : Int) := by omega
    have d2 : (m : Int) % 26 = ((m % 26 : Nat) : Int) := by omega
    have cx := chS_at (k := m % 26) (by omega)
    have za : (Str.length (chS (m % 26)) + acc.length ≤ sizeLine) = True := eq_true (by rw [chS_len]; omega)
    simp only [p26, cd, d1, d2, cx, za, b_ok, b_bad, b_ex, f_ok, f_bad, f_ex, n_nx, n_rt, n_bk, n_ct, n_ex, n_bad, l_nx, l_rt, l_bk, l_ct, l_ex, l_bad, sNx_e, sSeq_e, sBk_e, sCt_e, sRetN_e, sExp_e, kExp_e, sRet_e, kRet_e, sIf_e, kIf_t, kIf_f, sSet_e, kSet_e, svOf_t, svOf_f, sSetC_e, kCell_e, sAsg_e, kG1_e, oF_s, oF_n, gN_e, gT_e, gsNil_e, gsCons_e, sPar_e, kPar1_e, kPar2_e, sPar3_e, kPr1_e, kPr2_e, kPr3_e, sPut_e, kPut1_e, kPut2_e, isLst_l, kPut_e, kPt_e, kPu_e, plGet_e, pG_o, pG_c, plS_e, pS_o, pS_f, plC_e, pC_o, pC_c, mFr_e, kFz_e, mVar_e, kVar_f, kVar_o, mMov_e, kMov_f, kMov_o, mBw_e, kBw_f, kBw_o, mCon_e, mOf_e, kOf_e, o2_e, m2_e, k2a_e, k2b_e, kDB_s, kDB_n, fl_e, m1_e, k1a_e, get_dv, get_bw, sv_f, sv_o, sv_n, de_cell, de_non, de_bool, de_int, de_str, de_fn, de_rol, de_lst, de_tup, de_dct, de_dtt, de_ins, mCB_e, kCB_e, getAll_n, getAll_c, g2_e, mVals_e, kVl_e, vals_n, vals_c, aNil_e, aCons_e, kC1_e, kC2_e, mT_e, kTb_e, tAnd_e, kAn_t, kAn_f, tOr_e, kOr_t, kOr_f, tNot_e, kNt_e, mTru_e, kTr_e, kO_s, dTru_b, mIf_e, kIfe_t, kIfe_f, mAnd_e, kAnd_t, kAnd_f, mOr_e, kOr2_t, kOr2_f, mNot_e, kNot2_e, kFr_o, mFn_e, kF1_e, kFn_e, mFnK_e, kK1_e, v2_e, kK2_e, mMut_e, kMu_e, mMut0_e, oM_e, kMut_e, pNone_e, pSome_e, kPs_e, mCut_e, kCt1_e, kCt2_e, oC3_e, kCt3_e, fM_e, endF_n, endF_r, dAdd_i, dAdd_s, dAdd_l, dAdd_t, dSub_i, dMul_i, dDiv_i, dMod_i, dPow_i, dLt_i, dLe_i, dGt_i, dGe_i, dLt_s, dEq_i, dEq_b, dEq_s, dNe_i, dNe_b, dNe_s, dInt_i, dAbs_i, dLen_l, dLen_r, dLen_t, dLen_s, dIx_l, dIx_r, dIx_t, dList_l, dList_r, dList_t, dTuple_l, dTuple_t, dDispL_e, dDispT_e, dIsN_n, dNotN_n, dIsN_bool, dNotN_bool, dIsN_int, dNotN_int, dIsN_str, dNotN_str, dIsN_lst, dNotN_lst, dIsN_tup, dNotN_tup, dIsi_non, dIsiT_non, dIsi_bool, dIsiT_bool, dIsi_int, dIsiT_int, dIsi_str, dIsiT_str, dIsi_lst, dIsiT_lst, dIsi_rol, dIsiT_rol, dIsi_tup, dIsiT_tup, mChain_e, kH1_e, kH2_e, kH3_t, kH3_f, kH4_e, mM1_e, kM1_e, kM2_e, kM3_e, mJs_n, mJs_c, kJ_e, dFmt_s, dNeg_i, dDivmod_e, dMax2_e, dMin2_e, dCut_l, dCut_r, dCut_t, dCut_s, dPop_e, fApp_e, List.getElem?_cons_zero, List.getElem?_cons_succ, List.set_cons_zero, List.set_cons_succ, Option.bind_some, Option.bind_none, Option.map_some, Option.map_none, List.map_cons, List.map_nil, List.length_cons, List.length_nil, List.replicate, List.cons_append, List.nil_append, List.set_set, if_true, if_false, ite_true, ite_false, reduceIte, Nat.reduceAdd, Nat.reduceSub, Nat.zero_add, Nat.add_zero, Bool.not_true, Bool.not_false, decide_true, decide_false, Bool.true_and, Bool.and_true, Bool.false_and, Bool.and_false, Bool.or_true, Bool.true_or, Bool.or_false, Bool.false_or, eq_self]
    refine ⟨m / 26, chS (m % 26) ++ acc, _, rfl, rfl, by rw [app_len, chS_len, a3]; omega, by omega, ?_⟩
    rw [← a5]
    have : s + 1 - j = (s + 1 - (j + 1)) + 1 := by omega
    rw [this]
    rfl
end KW

set_option Elab.async false
set_option linter.all false
set_option maxRecDepth 100000
namespace KW
open PySem PySem.Spec L2 EV
open PyProof.Rows hiding St
/-- an index of a mark -/
def Ix (d : EV.D) : Prop := ∃ i : Nat, d = .int (i : Int) ∧ i < 1000000
theorem marked_ok {c : CL} (B : Bg c) : ∃ c', f__law_marked [.cell 0] c = .ok (.bool true, false) [] c' ∧ Bg c' := by
  obtain ⟨j1, c1, h1, b1, l1⟩ := draw_bg B (sides := 456975) (by decide) (by decide)
  obtain ⟨j2, c2, h2, b2, l2⟩ := draw_bg b1 (sides := 60) (by decide) (by decide)
  obtain ⟨j3, c3, h3, b3, l3⟩ := draw_bg b2 (sides := 800) (by decide) (by decide)
  obtain ⟨j4, c4, h4, b4, l4⟩ := draw_bg b3 (sides := 2000) (by decide) (by decide)
  have z2 : ((2 : Nat) ≤ sizeLine) = True := lineN (by decide)
  have z3 : ((3 : Nat) ≤ sizeLine) = True := lineN (by decide)
  have z12 : ((12 : Nat) ≤ sizeLine) = True := lineN (by decide)
  have z15 : ((15 : Nat) ≤ sizeLine) = True := lineN (by decide)
  have e1 : sSet 1 (mVals dDispL (aCons (mOf (m2 dAdd (mOf (mCon (.int 18279))) (mOf (mFn 2 f__law_draw (aCons (mOf (mVar 0)) (aCons (mOf (mCon (.int 456975))) aNil)))))) (aCons (mOf (mCon (.int 475253))) (aCons (mOf (mCon (.int 475254))) aNil)))) [.fz (.cell 0), .no, .no] c = .nx [.fz (.cell 0), .ow (.lst [.int (18279 + (j1 : Int)), .int 475253, .int 475254]), .no] c1 := by
    simp only [h1, z3, b_ok, b_bad, b_ex, f_ok, f_bad, f_ex, n_nx, n_rt, n_bk, n_ct, n_ex, n_bad, l_nx, l_rt, l_bk, l_ct, l_ex, l_bad, sNx_e, sSeq_e, sBk_e, sCt_e, sRetN_e, sExp_e, kExp_e, sRet_e, kRet_e, sIf_e, kIf_t, kIf_f, sSet_e, kSet_e, svOf_t, svOf_f, sSetC_e, kCell_e, sAsg_e, kG1_e, oF_s, oF_n, gN_e, gT_e, gsNil_e, gsCons_e, sPar_e, kPar1_e, kPar2_e, sPar3_e, kPr1_e, kPr2_e, kPr3_e, sPut_e, kPut1_e, kPut2_e, isLst_l, kPut_e, kPt_e, kPu_e, plGet_e, pG_o, pG_c, plS_e, pS_o, pS_f, plC_e, pC_o, pC_c, mFr_e, kFz_e, mVar_e, kVar_f, kVar_o, mMov_e, kMov_f, kMov_o, mBw_e, kBw_f, kBw_o, mCon_e, mOf_e, kOf_e, o2_e, m2_e, k2a_e, k2b_e, kDB_s, kDB_n, fl_e, m1_e, k1a_e, get_dv, get_bw, sv_f, sv_o, sv_n, de_cell, de_non, de_bool, de_int, de_str, de_fn, de_rol, de_lst, de_tup, de_dct, de_dtt, de_ins, mCB_e, kCB_e, getAll_n, getAll_c, g2_e, mVals_e, kVl_e, vals_n, vals_c, aNil_e, aCons_e, kC1_e, kC2_e, mT_e, kTb_e, tAnd_e, kAn_t, kAn_f, tOr_e, kOr_t, kOr_f, tNot_e, kNt_e, mTru_e, kTr_e, kO_s, dTru_b, mIf_e, kIfe_t, kIfe_f, mAnd_e, kAnd_t, kAnd_f, mOr_e, kOr2_t, kOr2_f, mNot_e, kNot2_e, kFr_o, mFn_e, kF1_e, kFn_e, mFnK_e, kK1_e, v2_e, kK2_e, mMut_e, kMu_e, mMut0_e, oM_e, kMut_e, pNone_e, pSome_e, kPs_e, mCut_e, kCt1_e, kCt2_e, oC3_e, kCt3_e, fM_e, endF_n, endF_r, dAdd_i, dAdd_s, dAdd_l, dAdd_t, dSub_i, dMul_i, dDiv_i, dMod_i, dPow_i, dLt_i, dLe_i, dGt_i, dGe_i, dLt_s, dEq_i, dEq_b, dEq_s, dNe_i, dNe_b, dNe_s, dInt_i, dAbs_i, dLen_l, dLen_r, dLen_t, dLen_s, dIx_l, dIx_r, dIx_t, dList_l, dList_r, dList_t, dTuple_l, dTuple_t, dDispL_e, dDispT_e, dIsN_n, dNotN_n, dIsN_bool, dNotN_bool, dIsN_int, dNotN_int, dIsN_str, dNotN_str, dIsN_lst, dNotN_lst, dIsN_tup, dNotN_tup, dIsi_non, dIsiT_non, dIsi_bool, dIsiT_bool, dIsi_int, dIsiT_int, dIsi_str, dIsiT_str, dIsi_lst, dIsiT_lst, dIsi_rol, dIsiT_rol, dIsi_tup, dIsiT_tup, mChain_e, kH1_e, kH2_e, kH3_t, kH3_f, kH4_e, mM1_e, kM1_e, kM2_e, kM3_e, mJs_n, mJs_c, kJ_e, dFmt_s, dNeg_i, dDivmod_e, dMax2_e, dMin2_e, dCut_l, dCut_r, dCut_t, dCut_s, dPop_e, fApp_e, List.getElem?_cons_zero, List.getElem?_cons_succ, List.set_cons_zero, List.set_cons_succ, Option.bind_some, Option.bind_none, Option.map_some, Option.map_none, List.map_cons, List.map_nil, List.length_cons, List.length_nil, List.replicate, List.cons_append, List.nil_append, List.set_set, if_true, if_false, ite_true, ite_false, reduceIte, Nat.reduceAdd, Nat.reduceSub, Nat.zero_add, Nat.add_zero, Bool.not_true, Bool.not_false, decide_true, decide_false, Bool.true_and, Bool.and_true, Bool.false_and, Bool.and_false, Bool.or_true, Bool.true_or, Bool.or_false, Bool.false_or, eq_self]
  have loop : ∀ Q : Fl → Prop, (∀ x2 c, Bg c → Q (.nx [.fz (.cell 0), .ow (.lst [.int (18279 + (j1 : Int)), .int 475253, .int 475254]), x2] c)) →
      Q (sFor (iAny (mOf (m2 dAdd (mOf (mVals dDispL (aCons (mOf (mCon (.int 0))) (aCons (mOf (mCon (.int 25))) (aCons (mOf (mCon (.int 26))) (aCons (mOf (mCon (.int 27))) (aCons (mOf (mCon (.int 51))) (aCons (mOf (mCon (.int 52))) (aCons (mOf (mCon (.int 701))) (aCons (mOf (mCon (.int 702))) (aCons (mOf (mCon (.int 703))) (aCons (mOf (mFn 2 f__law_draw (aCons (mOf (mVar 0)) (aCons (mOf (mCon (.int 60))) aNil)))) (aCons (mOf (mFn 2 f__law_draw (aCons (mOf (mVar 0)) (aCons (mOf (mCon (.int 800))) aNil)))) (aCons (mOf (mFn 2 f__law_draw (aCons (mOf (mVar 0)) (aCons (mOf (mCon (.int 2000))) aNil)))) aNil)))))))))))))) (mBw 1)))) (gN 2) (sIf (tNotM (mTru (mOf (mFn 2 (f__law_same 6) (aCons (mOf (mVals dDispL (aCons (mOf (mFn 1 f_nth_mark (aCons (mOf (mVar 2)) aNil))) (aCons (mOf (mFnK 0 1 [0] f_nth_mark aNil (aCons (mOf (mVar 2)) aNil))) aNil)))) (aCons (mOf (mVals dDispL (aCons (mOf (mFn 1 f__law_mark (aCons (mOf (mVar 2)) aNil))) (aCons (mOf (mFn 1 f__law_mark (aCons (mOf (mVar 2)) aNil))) aNil)))) aNil)))))) (sRet (mCon (.bool false))) sNx) [.fz (.cell 0), .ow (.lst [.int (18279 + (j1 : Int)), .int 475253, .int 475254]), .no] c1) := by
    intro Q hQ
    refine sFor_go (ds := [.int 0, .int 25, .int 26, .int 27, .int 51, .int 52, .int 701, .int 702, .int 703, .int (j2 : Int), .int (j3 : Int), .int (j4 : Int), .int (18279 + (j1 : Int)), .int 475253, .int 475254]) (s1 := [.fz (.cell 0), .ow (.lst [.int (18279 + (j1 : Int)), .int 475253, .int 475254]), .no]) (c1 := c4) (iAny_l (by simp only [h2, h3, h4, z12, z15, b_ok, b_bad, b_ex, f_ok, f_bad, f_ex, n_nx, n_rt, n_bk, n_ct, n_ex, n_bad, l_nx, l_rt, l_bk, l_ct, l_ex, l_bad, sNx_e, sSeq_e, sBk_e, sCt_e, sRetN_e, sExp_e, kExp_e, sRet_e, kRet_e, sIf_e, kIf_t, kIf_f, sSet_e, kSet_e, svOf_t, svOf_f, sSetC_e, kCell_e, sAsg_e, kG1_e, oF_s, oF_n, gN_e, gT_e, gsNil_e, gsCons_e, sPar_e, kPar1_e, kPar2_e, sPar3_e, kPr1_e, kPr2_e, kPr3_e, sPut_e, kPut1_e, kPut2_e, isLst_l, kPut_e, kPt_e, kPu_e, plGet_e, pG_o, pG_c, plS_e, pS_o, pS_f, plC_e, pC_o, pC_c, mFr_e, kFz_e, mVar_e, kVar_f, kVar_o, mMov_e, kMov_f, kMov_o, mBw_e, kBw_f, kBw_o, mCon_e, mOf_e, kOf_e, o2_e, m2_e, k2a_e, k2b_e, kDB_s, kDB_n, fl_e, m1_e, k1a_e, get_dv, get_bw, sv_f, sv_o, sv_n, de_cell, de_non, de_bool, de_int, de_str, de_fn, de_rol, de_lst, de_tup, de_dct, de_dtt, de_ins, mCB_e, kCB_e, getAll_n, getAll_c, g2_e, mVals_e, kVl_e, vals_n, vals_c, aNil_e, aCons_e, kC1_e, kC2_e, mT_e, kTb_e, tAnd_e, kAn_t, kAn_f, tOr_e, kOr_t, kOr_f, tNot_e, kNt_e, mTru_e, kTr_e, kO_s, dTru_b, mIf_e, kIfe_t, kIfe_f, mAnd_e, kAnd_t, kAnd_f, mOr_e, kOr2_t, kOr2_f, mNot_e, kNot2_e, kFr_o, mFn_e, kF1_e, kFn_e, mFnK_e, kK1_e, v2_e, kK2_e, mMut_e, kMu_e, mMut0_e, oM_e, kMut_e, pNone_e, pSome_e, kPs_e, mCut_e, kCt1_e, kCt2_e, oC3_e, kCt3_e, fM_e, endF_n, endF_r, dAdd_i, dAdd_s, dAdd_l, dAdd_t, dSub_i, dMul_i, dDiv_i, dMod_i, dPow_i, dLt_i, dLe_i, dGt_i, dGe_i, dLt_s, dEq_i, dEq_b, dEq_s, dNe_i, dNe_b, dNe_s, dInt_i, dAbs_i, dLen_l, dLen_r, dLen_t, dLen_s, dIx_l, dIx_r, dIx_t, dList_l, dList_r, dList_t, dTuple_l, dTuple_t, dDispL_e, dDispT_e, dIsN_n, dNotN_n, dIsN_bool, dNotN_bool, dIsN_int, dNotN_int, dIsN_str, dNotN_str, dIsN_lst, dNotN_lst, dIsN_tup, dNotN_tup, dIsi_non, dIsiT_non, dIsi_bool, dIsiT_bool, dIsi_int, dIsiT_int, dIsi_str, dIsiT_str, dIsi_lst, dIsiT_lst, dIsi_rol, dIsiT_rol, dIsi_tup, dIsiT_tup, mChain_e, kH1_e, kH2_e, kH3_t, kH3_f, kH4_e, mM1_e, kM1_e, kM2_e, kM3_e, mJs_n, mJs_c, kJ_e, dFmt_s, dNeg_i, dDivmod_e, dMax2_e, dMin2_e, dCut_l, dCut_r, dCut_t, dCut_s, dPop_e, fApp_e, List.getElem?_cons_zero, List.getElem?_cons_succ, List.set_cons_zero, List.set_cons_succ, Option.bind_some, Option.bind_none, Option.map_some, Option.map_none, List.map_cons, List.map_nil, List.length_cons, List.length_nil, List.replicate, List.cons_append, List.nil_append, List.set_set, if_true, if_false, ite_true, ite_false, reduceIte, Nat.reduceAdd, Nat.reduceSub, Nat.zero_add, Nat.add_zero, Bool.not_true, Bool.not_false, decide_true, decide_false, Bool.true_and, Bool.and_true, Bool.false_and, Bool.and_false, Bool.or_true, Bool.true_or, Bool.or_false, Bool.false_or, eq_self]))
      (fun i s c => ∃ x2, s = [.fz (.cell 0), .ow (.lst [.int (18279 + (j1 : Int)), .int 475253, .int 475254]), x2] ∧ Bg c) Q ⟨_, rfl, b4⟩ (fun s c ⟨x2, e, b⟩ => by rw [e]; exact hQ x2 c b) fun i d s c he ⟨x2, e, b⟩ => ?_
    subst e
    have hd : Ix d := by
      have hm := List.mem_of_getElem? he
      simp only [List.mem_cons, List.not_mem_nil, or_false] at hm
      rcases hm with rfl | rfl | rfl | rfl | rfl | rfl | rfl | rfl | rfl | rfl | rfl | rfl | rfl | rfl | rfl
      · exact ⟨0, rfl, by decide⟩
      · exact ⟨25, rfl, by decide⟩
      · exact ⟨26, rfl, by decide⟩
      · exact ⟨27, rfl, by decide⟩
      · exact ⟨51, rfl, by decide⟩
      · exact ⟨52, rfl, by decide⟩
      · exact ⟨701, rfl, by decide⟩
      · exact ⟨702, rfl, by decide⟩
      · exact ⟨703, rfl, by decide⟩
      · exact ⟨j2, rfl, by omega⟩
      · exact ⟨j3, rfl, by omega⟩
      · exact ⟨j4, rfl, by omega⟩
      · exact ⟨18279 + j1, by congr 1, by omega⟩
      · exact ⟨475253, rfl, by decide⟩
      · exact ⟨475254, rfl, by decide⟩
    obtain ⟨n, rfl, hn⟩ := hd
    have a1 := nth_ok (c := c) hn
    have a2 := mark_ok (c := c) hn
    generalize nm (n + 1) (n + 1) Str.empty = w at a1 a2
    have sm := same_l (n := 4) (c := c) (ds := [.str w, .str w]) (fun x hx => by
      simp only [List.mem_cons, List.not_mem_nil, or_false] at hx
      rcases hx with rfl | rfl <;> exact .inr ⟨_, rfl⟩) (by simp)
    have p1 : (([] : List Od).length = 0 ∧ (1 : Nat) = 1) = True := by simp
    refine ⟨_, rfl, ?_⟩
    simp only [a1, a2, sm, z2, pick, p1, true_and, and_self, and_true, b_ok, b_bad, b_ex, f_ok, f_bad, f_ex, n_nx, n_rt, n_bk, n_ct, n_ex, n_bad, l_nx, l_rt, l_bk, l_ct, l_ex, l_bad, sNx_e, sSeq_e, sBk_e, sCt_e, sRetN_e, sExp_e, kExp_e, sRet_e, kRet_e, sIf_e, kIf_t, kIf_f, sSet_e, kSet_e, svOf_t, svOf_f, sSetC_e, kCell_e, sAsg_e, kG1_e, oF_s, oF_n, gN_e, gT_e, gsNil_e, gsCons_e, sPar_e, kPar1_e, kPar2_e, sPar3_e, kPr1_e, kPr2_e, kPr3_e, sPut_e, kPut1_e, kPut2_e, isLst_l, kPut_e, kPt_e, kPu_e, plGet_e, pG_o, pG_c, plS_e, pS_o, pS_f, plC_e, pC_o, pC_c, mFr_e, kFz_e, mVar_e, kVar_f, kVar_o, mMov_e, kMov_f, kMov_o, mBw_e, kBw_f, kBw_o, mCon_e, mOf_e, kOf_e, o2_e, m2_e, k2a_e, k2b_e, kDB_s, kDB_n, fl_e, m1_e, k1a_e, get_dv, get_bw, sv_f, sv_o, sv_n, de_cell, de_non, de_bool, de_int, de_str, de_fn, de_rol, de_lst, de_tup, de_dct, de_dtt, de_ins, mCB_e, kCB_e, getAll_n, getAll_c, g2_e, mVals_e, kVl_e, vals_n, vals_c, aNil_e, aCons_e, kC1_e, kC2_e, mT_e, kTb_e, tAnd_e, kAn_t, kAn_f, tOr_e, kOr_t, kOr_f, tNot_e, kNt_e, mTru_e, kTr_e, kO_s, dTru_b, mIf_e, kIfe_t, kIfe_f, mAnd_e, kAnd_t, kAnd_f, mOr_e, kOr2_t, kOr2_f, mNot_e, kNot2_e, kFr_o, mFn_e, kF1_e, kFn_e, mFnK_e, kK1_e, v2_e, kK2_e, mMut_e, kMu_e, mMut0_e, oM_e, kMut_e, pNone_e, pSome_e, kPs_e, mCut_e, kCt1_e, kCt2_e, oC3_e, kCt3_e, fM_e, endF_n, endF_r, dAdd_i, dAdd_s, dAdd_l, dAdd_t, dSub_i, dMul_i, dDiv_i, dMod_i, dPow_i, dLt_i, dLe_i, dGt_i, dGe_i, dLt_s, dEq_i, dEq_b, dEq_s, dNe_i, dNe_b, dNe_s, dInt_i, dAbs_i, dLen_l, dLen_r, dLen_t, dLen_s, dIx_l, dIx_r, dIx_t, dList_l, dList_r, dList_t, dTuple_l, dTuple_t, dDispL_e, dDispT_e, dIsN_n, dNotN_n, dIsN_bool, dNotN_bool, dIsN_int, dNotN_int, dIsN_str, dNotN_str, dIsN_lst, dNotN_lst, dIsN_tup, dNotN_tup, dIsi_non, dIsiT_non, dIsi_bool, dIsiT_bool, dIsi_int, dIsiT_int, dIsi_str, dIsiT_str, dIsi_lst, dIsiT_lst, dIsi_rol, dIsiT_rol, dIsi_tup, dIsiT_tup, mChain_e, kH1_e, kH2_e, kH3_t, kH3_f, kH4_e, mM1_e, kM1_e, kM2_e, kM3_e, mJs_n, mJs_c, kJ_e, dFmt_s, dNeg_i, dDivmod_e, dMax2_e, dMin2_e, dCut_l, dCut_r, dCut_t, dCut_s, dPop_e, fApp_e, List.getElem?_cons_zero, List.getElem?_cons_succ, List.set_cons_zero, List.set_cons_succ, Option.bind_some, Option.bind_none, Option.map_some, Option.map_none, List.map_cons, List.map_nil, List.length_cons, List.length_nil, List.replicate, List.cons_append, List.nil_append, List.set_set, if_true, if_false, ite_true, ite_false, reduceIte, Nat.reduceAdd, Nat.reduceSub, Nat.zero_add, Nat.add_zero, Bool.not_true, Bool.not_false, decide_true, decide_false, Bool.true_and, Bool.and_true, Bool.false_and, Bool.and_false, Bool.or_true, Bool.true_or, Bool.or_false, Bool.false_or, eq_self]
    exact ⟨_, rfl, b⟩
  unfold f__law_marked m__law_marked
  simp only [fM_e, List.map_cons, List.map_nil, List.length_cons, List.length_nil, Nat.reduceAdd, Nat.zero_add, Nat.reduceSub, List.replicate, List.cons_append, List.nil_append, sSeq_e, e1, n_nx]
  refine loop (fun o => ∃ c', endF (o.nxt (sSeq (sIf (mT (m2 dEq (mOf (mFn 2 f__law_draw (aCons (mOf (mVar 0)) (aCons (mOf (mCon (.int 8))) aNil)))) (mOf (mCon (.int 0))))) (sSeq (sSet 2 (mFn 2 f__law_of (aCons (mOf (mVar 0)) (aCons (mOf (mVals dDispL (aCons (mOf (mCon (.int 18277))) (aCons (mOf (mCon (.int 18278))) aNil)))) aNil)))) (sRet (mFn 2 (f__law_same 6) (aCons (mOf (mFn 1 f_nth_mark (aCons (mOf (mVar 2)) aNil))) (aCons (mOf (mFn 1 f__law_mark (aCons (mOf (mVar 2)) aNil))) aNil))))) sNx) (sRet (mCon (.bool true))))) = .ok (.bool true, false) [] c' ∧ Bg c') fun x2 c5 b5 => ?_
  obtain ⟨q, c6, h6, b6, l6⟩ := draw_bg b5 (sides := 8) (by decide) (by decide)
  by_cases hq : (q : Int) = 0
  · have g : ((q : Int) = 0) = True := eq_true hq
    obtain ⟨x, c7, h7, b7, m7⟩ := of_l (xs := [.int 18277, .int 18278]) b6 (by simp) (by simp)
    have hx : Ix x := by
      simp only [List.mem_cons, List.not_mem_nil, or_false] at m7
      rcases m7 with rfl | rfl
      · exact ⟨18277, rfl, by decide⟩
      · exact ⟨18278, rfl, by decide⟩
    obtain ⟨n, rfl, hn⟩ := hx
    have a1 := nth_ok (c := c7) hn
    have a2 := mark_ok (c := c7) hn
    generalize nm (n + 1) (n + 1) Str.empty = w at a1 a2
    have sm := same_s (n := 5) (x := w) (c := c7)
    refine ⟨c7, ?_, b7⟩
    simp only [h6, g, h7, a1, a2, sm, z2, b_ok, b_bad, b_ex, f_ok, f_bad, f_ex, n_nx, n_rt, n_bk, n_ct, n_ex, n_bad, l_nx, l_rt, l_bk, l_ct, l_ex, l_bad, sNx_e, sSeq_e, sBk_e, sCt_e, sRetN_e, sExp_e, kExp_e, sRet_e, kRet_e, sIf_e, kIf_t, kIf_f, sSet_e, kSet_e, svOf_t, svOf_f, sSetC_e, kCell_e, sAsg_e, kG1_e, oF_s, oF_n, gN_e, gT_e, gsNil_e, gsCons_e, sPar_e, kPar1_e, kPar2_e, sPar3_e, kPr1_e, kPr2_e, kPr3_e, sPut_e, kPut1_e, kPut2_e, isLst_l, kPut_e, kPt_e, kPu_e, plGet_e, pG_o, pG_c, plS_e, pS_o, pS_f, plC_e, pC_o, pC_c, mFr_e, kFz_e, mVar_e, kVar_f, kVar_o, mMov_e, kMov_f, kMov_o, mBw_e, kBw_f, kBw_o, mCon_e, mOf_e, kOf_e, o2_e, m2_e, k2a_e, k2b_e, kDB_s, kDB_n, fl_e, m1_e, k1a_e, get_dv, get_bw, sv_f, sv_o, sv_n, de_cell, de_non, de_bool, de_int, de_str, de_fn, de_rol, de_lst, de_tup, de_dct, de_dtt, de_ins, mCB_e, kCB_e, getAll_n, getAll_c, g2_e, mVals_e, kVl_e, vals_n, vals_c, aNil_e, aCons_e, kC1_e, kC2_e, mT_e, kTb_e, tAnd_e, kAn_t, kAn_f, tOr_e, kOr_t, kOr_f, tNot_e, kNt_e, mTru_e, kTr_e, kO_s, dTru_b, mIf_e, kIfe_t, kIfe_f, mAnd_e, kAnd_t, kAnd_f, mOr_e, kOr2_t, kOr2_f, mNot_e, kNot2_e, kFr_o, mFn_e, kF1_e, kFn_e, mFnK_e, kK1_e, v2_e, kK2_e, mMut_e, kMu_e, mMut0_e, oM_e, kMut_e, pNone_e, pSome_e, kPs_e, mCut_e, kCt1_e, kCt2_e, oC3_e, kCt3_e, fM_e, endF_n, endF_r, dAdd_i, dAdd_s, dAdd_l, dAdd_t, dSub_i, dMul_i, dDiv_i, dMod_i, dPow_i, dLt_i, dLe_i, dGt_i, dGe_i, dLt_s, dEq_i, dEq_b, dEq_s, dNe_i, dNe_b, dNe_s, dInt_i, dAbs_i, dLen_l, dLen_r, dLen_t, dLen_s, dIx_l, dIx_r, dIx_t, dList_l, dList_r, dList_t, dTuple_l, dTuple_t, dDispL_e, dDispT_e, dIsN_n, dNotN_n, dIsN_bool, dNotN_bool, dIsN_int, dNotN_int, dIsN_str, dNotN_str, dIsN_lst, dNotN_lst, dIsN_tup, dNotN_tup, dIsi_non, dIsiT_non, dIsi_bool, dIsiT_bool, dIsi_int, dIsiT_int, dIsi_str, dIsiT_str, dIsi_lst, dIsiT_lst, dIsi_rol, dIsiT_rol, dIsi_tup, dIsiT_tup, mChain_e, kH1_e, kH2_e, kH3_t, kH3_f, kH4_e, mM1_e, kM1_e, kM2_e, kM3_e, mJs_n, mJs_c, kJ_e, dFmt_s, dNeg_i, dDivmod_e, dMax2_e, dMin2_e, dCut_l, dCut_r, dCut_t, dCut_s, dPop_e, fApp_e, List.getElem?_cons_zero, List.getElem?_cons_succ, List.set_cons_zero, List.set_cons_succ, Option.bind_some, Option.bind_none, Option.map_some, Option.map_none, List.map_cons, List.map_nil, List.length_cons, List.length_nil, List.replicate, List.cons_append, List.nil_append, List.set_set, if_true, if_false, ite_true, ite_false, reduceIte, Nat.reduceAdd, Nat.reduceSub, Nat.zero_add, Nat.add_zero, Bool.not_true, Bool.not_false, decide_true, decide_false, Bool.true_and, Bool.and_true, Bool.false_and, Bool.and_false, Bool.or_true, Bool.true_or, Bool.or_false, Bool.false_or, eq_self]
  · have g : ((q : Int) = 0) = False := eq_false hq
    refine ⟨c6, ?_, b6⟩
    simp only [h6, g, b_ok, b_bad, b_ex, f_ok, f_bad, f_ex, n_nx, n_rt, n_bk, n_ct, n_ex, n_bad, l_nx, l_rt, l_bk, l_ct, l_ex, l_bad, sNx_e, sSeq_e, sBk_e, sCt_e, sRetN_e, sExp_e, kExp_e, sRet_e, kRet_e, sIf_e, kIf_t, kIf_f, sSet_e, kSet_e, svOf_t, svOf_f, sSetC_e, kCell_e, sAsg_e, kG1_e, oF_s, oF_n, gN_e, gT_e, gsNil_e, gsCons_e, sPar_e, kPar1_e, kPar2_e, sPar3_e, kPr1_e, kPr2_e, kPr3_e, sPut_e, kPut1_e, kPut2_e, isLst_l, kPut_e, kPt_e, kPu_e, plGet_e, pG_o, pG_c, plS_e, pS_o, pS_f, plC_e, pC_o, pC_c, mFr_e, kFz_e, mVar_e, kVar_f, kVar_o, mMov_e, kMov_f, kMov_o, mBw_e, kBw_f, kBw_o, mCon_e, mOf_e, kOf_e, o2_e, m2_e, k2a_e, k2b_e, kDB_s, kDB_n, fl_e, m1_e, k1a_e, get_dv, get_bw, sv_f, sv_o, sv_n, de_cell, de_non, de_bool, de_int, de_str, de_fn, de_rol, de_lst, de_tup, de_dct, de_dtt, de_ins, mCB_e, kCB_e, getAll_n, getAll_c, g2_e, mVals_e, kVl_e, vals_n, vals_c, aNil_e, aCons_e, kC1_e, kC2_e, mT_e, kTb_e, tAnd_e, kAn_t, kAn_f, tOr_e, kOr_t, kOr_f, tNot_e, kNt_e, mTru_e, kTr_e, kO_s, dTru_b, mIf_e, kIfe_t, kIfe_f, mAnd_e, kAnd_t, kAnd_f, mOr_e, kOr2_t, kOr2_f, mNot_e, kNot2_e, kFr_o, mFn_e, kF1_e, kFn_e, mFnK_e, kK1_e, v2_e, kK2_e, mMut_e, kMu_e, mMut0_e, oM_e, kMut_e, pNone_e, pSome_e, kPs_e, mCut_e, kCt1_e, kCt2_e, oC3_e, kCt3_e, fM_e, endF_n, endF_r, dAdd_i, dAdd_s, dAdd_l, dAdd_t, dSub_i, dMul_i, dDiv_i, dMod_i, dPow_i, dLt_i, dLe_i, dGt_i, dGe_i, dLt_s, dEq_i, dEq_b, dEq_s, dNe_i, dNe_b, dNe_s, dInt_i, dAbs_i, dLen_l, dLen_r, dLen_t, dLen_s, dIx_l, dIx_r, dIx_t, dList_l, dList_r, dList_t, dTuple_l, dTuple_t, dDispL_e, dDispT_e, dIsN_n, dNotN_n, dIsN_bool, dNotN_bool, dIsN_int, dNotN_int, dIsN_str, dNotN_str, dIsN_lst, dNotN_lst, dIsN_tup, dNotN_tup, dIsi_non, dIsiT_non, dIsi_bool, dIsiT_bool, dIsi_int, dIsiT_int, dIsi_str, dIsiT_str, dIsi_lst, dIsiT_lst, dIsi_rol, dIsiT_rol, dIsi_tup, dIsiT_tup, mChain_e, kH1_e, kH2_e, kH3_t, kH3_f, kH4_e, mM1_e, kM1_e, kM2_e, kM3_e, mJs_n, mJs_c, kJ_e, dFmt_s, dNeg_i, dDivmod_e, dMax2_e, dMin2_e, dCut_l, dCut_r, dCut_t, dCut_s, dPop_e, fApp_e, List.getElem?_cons_zero, List.getElem?_cons_succ, List.set_cons_zero, List.set_cons_succ, Option.bind_some, Option.bind_none, Option.map_some, Option.map_none, List.map_cons, List.map_nil, List.length_cons, List.length_nil, List.replicate, List.cons_append, List.nil_append, List.set_set, if_true, if_false, ite_true, ite_false, reduceIte, Nat.reduceAdd, Nat.reduceSub, Nat.zero_add, Nat.add_zero, Bool.not_true, Bool.not_false, decide_true, decide_false, Bool.true_and, Bool.and_true, Bool.false_and, Bool.and_false, Bool.or_true, Bool.true_or, Bool.or_false, Bool.false_or, eq_self]
/-- the bag at the start -/
theorem bag_ok (ns : List Int) (hl : ns.length ≤ 63) : ∃ m : Int, f__law_bag [.rol (ns.map .int)] [] = .ok (bagD ns 0 0 m 0, true) [] [] ∧ BagOk ns 0 0 m := by
  have hc : EV.cutD (ns.map EV.D.int) none (some 63) = ns.map EV.D.int := by
    unfold EV.cutD
    have h1 : HT.sIx (ns.map EV.D.int).length 0 none = 0 := rfl
    have h2 : HT.sIx (ns.map EV.D.int).length (ns.map EV.D.int).length (some 63) = min 63 (ns.map EV.D.int).length := HT.sIx_nat _ _ 63
    rw [h1, h2, List.drop_zero, List.length_map]
    exact List.take_of_length_le (by rw [List.length_map]; omega)
  have z5 : ((5 : Nat) ≤ sizeLine) = True := lineN (by decide)
  have loop : ∀ Q : Fl → Prop, (∀ (m : Int) (x2 : SV), 0 ≤ m → m < 2147483587 → Q (.nx [.fz (.rol (ns.map .int)), .fz (.int m), x2] [])) →
      Q (sFor (iAny (mOf (mCut (mBw 0) pNone (pSome (mCon (.int 63)))))) (gN 2) (sSet 1 (m2 dMod (mOf (mCB dInt (aCons (mOf (m2 dAdd (mOf (m2 dAdd (mOf (m2 dMul (mBw 1) (mOf (mCon (.int 48271))))) (mOf (m2 dMul (mOf (m2 dMod (mOf (mCB dInt (aCons (mBw 2) aNil))) (mOf (mCon (.int 1000639))))) (mOf (mCon (.int 907))))))) (mOf (mCon (.int 61))))) aNil))) (mOf (mCon (.int 2147483579))))) [.fz (.rol (ns.map .int)), .fz (.int 12034), .no] []) := by
    intro Q hQ
    refine sFor_go (ds := ns.map .int) (s1 := [.fz (.rol (ns.map .int)), .fz (.int 12034), .no]) (c1 := []) (iAny_l (by simp only [hc, b_ok, b_bad, b_ex, f_ok, f_bad, f_ex, n_nx, n_rt, n_bk, n_ct, n_ex, n_bad, l_nx, l_rt, l_bk, l_ct, l_ex, l_bad, sNx_e, sSeq_e, sBk_e, sCt_e, sRetN_e, sExp_e, kExp_e, sRet_e, kRet_e, sIf_e, kIf_t, kIf_f, sSet_e, kSet_e, svOf_t, svOf_f, sSetC_e, kCell_e, sAsg_e, kG1_e, oF_s, oF_n, gN_e, gT_e, gsNil_e, gsCons_e, sPar_e, kPar1_e, kPar2_e, sPar3_e, kPr1_e, kPr2_e, kPr3_e, sPut_e, kPut1_e, kPut2_e, isLst_l, kPut_e, kPt_e, kPu_e, plGet_e, pG_o, pG_c, plS_e, pS_o, pS_f, plC_e, pC_o, pC_c, mFr_e, kFz_e, mVar_e, kVar_f, kVar_o, mMov_e, kMov_f, kMov_o, mBw_e, kBw_f, kBw_o, mCon_e, mOf_e, kOf_e, o2_e, m2_e, k2a_e, k2b_e, kDB_s, kDB_n, fl_e, m1_e, k1a_e, get_dv, get_bw, sv_f, sv_o, sv_n, de_cell, de_non, de_bool, de_int, de_str, de_fn, de_rol, de_lst, de_tup, de_dct, de_dtt, de_ins, mCB_e, kCB_e, getAll_n, getAll_c, g2_e, mVals_e, kVl_e, vals_n, vals_c, aNil_e, aCons_e, kC1_e, kC2_e, mT_e, kTb_e, tAnd_e, kAn_t, kAn_f, tOr_e, kOr_t, kOr_f, tNot_e, kNt_e, mTru_e, kTr_e, kO_s, dTru_b, mIf_e, kIfe_t, kIfe_f, mAnd_e, kAnd_t, kAnd_f, mOr_e, kOr2_t, kOr2_f, mNot_e, kNot2_e, kFr_o, mFn_e, kF1_e, kFn_e, mFnK_e, kK1_e, v2_e, kK2_e, mMut_e, kMu_e, mMut0_e, oM_e, kMut_e, pNone_e, pSome_e, kPs_e, mCut_e, kCt1_e, kCt2_e, oC3_e, kCt3_e, fM_e, endF_n, endF_r, dAdd_i, dAdd_s, dAdd_l, dAdd_t, dSub_i, dMul_i, dDiv_i, dMod_i, dPow_i, dLt_i, dLe_i, dGt_i, dGe_i, dLt_s, dEq_i, dEq_b, dEq_s, dNe_i, dNe_b, dNe_s, dInt_i, dAbs_i, dLen_l, dLen_r, dLen_t, dLen_s, dIx_l, dIx_r, dIx_t, dList_l, dList_r, dList_t, dTuple_l, dTuple_t, dDispL_e, dDispT_e, dIsN_n, dNotN_n, dIsN_bool, dNotN_bool, dIsN_int, dNotN_int, dIsN_str, dNotN_str, dIsN_lst, dNotN_lst, dIsN_tup, dNotN_tup, dIsi_non, dIsiT_non, dIsi_bool, dIsiT_bool, dIsi_int, dIsiT_int, dIsi_str, dIsiT_str, dIsi_lst, dIsiT_lst, dIsi_rol, dIsiT_rol, dIsi_tup, dIsiT_tup, mChain_e, kH1_e, kH2_e, kH3_t, kH3_f, kH4_e, mM1_e, kM1_e, kM2_e, kM3_e, mJs_n, mJs_c, kJ_e, dFmt_s, dNeg_i, dDivmod_e, dMax2_e, dMin2_e, dCut_l, dCut_r, dCut_t, dCut_s, dPop_e, fApp_e, List.getElem?_cons_zero, List.getElem?_cons_succ, List.set_cons_zero, List.set_cons_succ, Option.bind_some, Option.bind_none, Option.map_some, Option.map_none, List.map_cons, List.map_nil, List.length_cons, List.length_nil, List.replicate, List.cons_append, List.nil_append, List.set_set, if_true, if_false, ite_true, ite_false, reduceIte, Nat.reduceAdd, Nat.reduceSub, Nat.zero_add, Nat.add_zero, Bool.not_true, Bool.not_false, decide_true, decide_false, Bool.true_and, Bool.and_true, Bool.false_and, Bool.and_false, Bool.or_true, Bool.true_or, Bool.or_false, Bool.false_or, eq_self])) (fun i s c => ∃ (m : Int) (x2 : SV), s = [.fz (.rol (ns.map .int)), .fz (.int m), x2] ∧ c = [] ∧ 0 ≤ m ∧ m < 2147483587) Q ⟨12034, .no, rfl, rfl, by decide, by decide⟩
      (fun s c ⟨m, x2, e1, e2, h1, h2⟩ => by rw [e1, e2]; exact hQ m x2 h1 h2) fun i d s c he ⟨m, x2, e1, e2, h1, h2⟩ => ?_
    subst e1 e2
    obtain ⟨k, hk, rfl⟩ := List.mem_map.mp (List.mem_of_getElem? he)
    refine ⟨_, rfl, ?_⟩
    have p1 : ((0 : Int) < 1000639) = True := by decide
    have p2 : ((0 : Int) < 2147483579) = True := by decide
    have c1 : ∀ x, CMulS x 48271 = True := fun x => eq_true (cmulR (by decide))
    have c2 : ∀ x, CMulS x 907 = True := fun x => eq_true (cmulR (by decide))
    simp only [p1, p2, c1, c2, b_ok, b_bad, b_ex, f_ok, f_bad, f_ex, n_nx, n_rt, n_bk, n_ct, n_ex, n_bad, l_nx, l_rt, l_bk, l_ct, l_ex, l_bad, sNx_e, sSeq_e, sBk_e, sCt_e, sRetN_e, sExp_e, kExp_e, sRet_e, kRet_e, sIf_e, kIf_t, kIf_f, sSet_e, kSet_e, svOf_t, svOf_f, sSetC_e, kCell_e, sAsg_e, kG1_e, oF_s, oF_n, gN_e, gT_e, gsNil_e, gsCons_e, sPar_e, kPar1_e, kPar2_e, sPar3_e, kPr1_e, kPr2_e, kPr3_e, sPut_e, kPut1_e, kPut2_e, isLst_l, kPut_e, kPt_e, kPu_e, plGet_e, pG_o, pG_c, plS_e, pS_o, pS_f, plC_e, pC_o, pC_c, mFr_e, kFz_e, mVar_e, kVar_f, kVar_o, mMov_e, kMov_f, kMov_o, mBw_e, kBw_f, kBw_o, mCon_e, mOf_e, kOf_e, o2_e, m2_e, k2a_e, k2b_e, kDB_s, kDB_n, fl_e, m1_e, k1a_e, get_dv, get_bw, sv_f, sv_o, sv_n, de_cell, de_non, de_bool, de_int, de_str, de_fn, de_rol, de_lst, de_tup, de_dct, de_dtt, de_ins, mCB_e, kCB_e, getAll_n, getAll_c, g2_e, mVals_e, kVl_e, vals_n, vals_c, aNil_e, aCons_e, kC1_e, kC2_e, mT_e, kTb_e, tAnd_e, kAn_t, kAn_f, tOr_e, kOr_t, kOr_f, tNot_e, kNt_e, mTru_e, kTr_e, kO_s, dTru_b, mIf_e, kIfe_t, kIfe_f, mAnd_e, kAnd_t, kAnd_f, mOr_e, kOr2_t, kOr2_f, mNot_e, kNot2_e, kFr_o, mFn_e, kF1_e, kFn_e, mFnK_e, kK1_e, v2_e, kK2_e, mMut_e, kMu_e, mMut0_e, oM_e, kMut_e, pNone_e, pSome_e, kPs_e, mCut_e, kCt1_e, kCt2_e, oC3_e, kCt3_e, fM_e, endF_n, endF_r, dAdd_i, dAdd_s, dAdd_l, dAdd_t, dSub_i, dMul_i, dDiv_i, dMod_i, dPow_i, dLt_i, dLe_i, dGt_i, dGe_i, dLt_s, dEq_i, dEq_b, dEq_s, dNe_i, dNe_b, dNe_s, dInt_i, dAbs_i, dLen_l, dLen_r, dLen_t, dLen_s, dIx_l, dIx_r, dIx_t, dList_l, dList_r, dList_t, dTuple_l, dTuple_t, dDispL_e, dDispT_e, dIsN_n, dNotN_n, dIsN_bool, dNotN_bool, dIsN_int, dNotN_int, dIsN_str, dNotN_str, dIsN_lst, dNotN_lst, dIsN_tup, dNotN_tup, dIsi_non, dIsiT_non, dIsi_bool, dIsiT_bool, dIsi_int, dIsiT_int, dIsi_str, dIsiT_str, dIsi_lst, dIsiT_lst, dIsi_rol, dIsiT_rol, dIsi_tup, dIsiT_tup, mChain_e, kH1_e, kH2_e, kH3_t, kH3_f, kH4_e, mM1_e, kM1_e, kM2_e, kM3_e, mJs_n, mJs_c, kJ_e, dFmt_s, dNeg_i, dDivmod_e, dMax2_e, dMin2_e, dCut_l, dCut_r, dCut_t, dCut_s, dPop_e, fApp_e, List.getElem?_cons_zero, List.getElem?_cons_succ, List.set_cons_zero, List.set_cons_succ, Option.bind_some, Option.bind_none, Option.map_some, Option.map_none, List.map_cons, List.map_nil, List.length_cons, List.length_nil, List.replicate, List.cons_append, List.nil_append, List.set_set, if_true, if_false, ite_true, ite_false, reduceIte, Nat.reduceAdd, Nat.reduceSub, Nat.zero_add, Nat.add_zero, Bool.not_true, Bool.not_false, decide_true, decide_false, Bool.true_and, Bool.and_true, Bool.false_and, Bool.and_false, Bool.or_true, Bool.true_or, Bool.or_false, Bool.false_or, eq_self]
    refine ⟨_, _, rfl, rfl, Int.emod_nonneg _ (by decide), ?_⟩
    have := Int.emod_lt_of_pos (m * 48271 + k % 1000639 * 907 + 61) (show (0 : Int) < 2147483579 by decide)
    omega
  unfold f__law_bag m__law_bag
  have e1 : sSet 1 (mCon (.int 12034)) [.fz (.rol (ns.map .int)), .no, .no] [] = .nx [.fz (.rol (ns.map .int)), .fz (.int 12034), .no] [] := by
    simp only [b_ok, b_bad, b_ex, f_ok, f_bad, f_ex, n_nx, n_rt, n_bk, n_ct, n_ex, n_bad, l_nx, l_rt, l_bk, l_ct, l_ex, l_bad, sNx_e, sSeq_e, sBk_e, sCt_e, sRetN_e, sExp_e, kExp_e, sRet_e, kRet_e, sIf_e, kIf_t, kIf_f, sSet_e, kSet_e, svOf_t, svOf_f, sSetC_e, kCell_e, sAsg_e, kG1_e, oF_s, oF_n, gN_e, gT_e, gsNil_e, gsCons_e, sPar_e, kPar1_e, kPar2_e, sPar3_e, kPr1_e, kPr2_e, kPr3_e, sPut_e, kPut1_e, kPut2_e, isLst_l, kPut_e, kPt_e, kPu_e, plGet_e, pG_o, pG_c, plS_e, pS_o, pS_f, plC_e, pC_o, pC_c, mFr_e, kFz_e, mVar_e, kVar_f, kVar_o, mMov_e, kMov_f, kMov_o, mBw_e, kBw_f, kBw_o, mCon_e, mOf_e, kOf_e, o2_e, m2_e, k2a_e, k2b_e, kDB_s, kDB_n, fl_e, m1_e, k1a_e, get_dv, get_bw, sv_f, sv_o, sv_n, de_cell, de_non, de_bool, de_int, de_str, de_fn, de_rol, de_lst, de_tup, de_dct, de_dtt, de_ins, mCB_e, kCB_e, getAll_n, getAll_c, g2_e, mVals_e, kVl_e, vals_n, vals_c, aNil_e, aCons_e, kC1_e, kC2_e, mT_e, kTb_e, tAnd_e, kAn_t, kAn_f, tOr_e, kOr_t, kOr_f, tNot_e, kNt_e, mTru_e, kTr_e, kO_s, dTru_b, mIf_e, kIfe_t, kIfe_f, mAnd_e, kAnd_t, kAnd_f, mOr_e, kOr2_t, kOr2_f, mNot_e, kNot2_e, kFr_o, mFn_e, kF1_e, kFn_e, mFnK_e, kK1_e, v2_e, kK2_e, mMut_e, kMu_e, mMut0_e, oM_e, kMut_e, pNone_e, pSome_e, kPs_e, mCut_e, kCt1_e, kCt2_e, oC3_e, kCt3_e, fM_e, endF_n, endF_r, dAdd_i, dAdd_s, dAdd_l, dAdd_t, dSub_i, dMul_i, dDiv_i, dMod_i, dPow_i, dLt_i, dLe_i, dGt_i, dGe_i, dLt_s, dEq_i, dEq_b, dEq_s, dNe_i, dNe_b, dNe_s, dInt_i, dAbs_i, dLen_l, dLen_r, dLen_t, dLen_s, dIx_l, dIx_r, dIx_t, dList_l, dList_r, dList_t, dTuple_l, dTuple_t, dDispL_e, dDispT_e, dIsN_n, dNotN_n, dIsN_bool, dNotN_bool, dIsN_int, dNotN_int, dIsN_str, dNotN_str, dIsN_lst, dNotN_lst, dIsN_tup, dNotN_tup, dIsi_non, dIsiT_non, dIsi_bool, dIsiT_bool, dIsi_int, dIsiT_int, dIsi_str, dIsiT_str, dIsi_lst, dIsiT_lst, dIsi_rol, dIsiT_rol, dIsi_tup, dIsiT_tup, mChain_e, kH1_e, kH2_e, kH3_t, kH3_f, kH4_e, mM1_e, kM1_e, kM2_e, kM3_e, mJs_n, mJs_c, kJ_e, dFmt_s, dNeg_i, dDivmod_e, dMax2_e, dMin2_e, dCut_l, dCut_r, dCut_t, dCut_s, dPop_e, fApp_e, List.getElem?_cons_zero, List.getElem?_cons_succ, List.set_cons_zero, List.set_cons_succ, Option.bind_some, Option.bind_none, Option.map_some, Option.map_none, List.map_cons, List.map_nil, List.length_cons, List.length_nil, List.replicate, List.cons_append, List.nil_append, List.set_set, if_true, if_false, ite_true, ite_false, reduceIte, Nat.reduceAdd, Nat.reduceSub, Nat.zero_add, Nat.add_zero, Bool.not_true, Bool.not_false, decide_true, decide_false, Bool.true_and, Bool.and_true, Bool.false_and, Bool.and_false, Bool.or_true, Bool.true_or, Bool.or_false, Bool.false_or, eq_self]
  simp only [fM_e, List.map_cons, List.map_nil, List.length_cons, List.length_nil, Nat.reduceAdd, Nat.zero_add, Nat.reduceSub, List.replicate, List.cons_append, List.nil_append, sSeq_e, e1, n_nx]
  refine loop (fun o => ∃ m : Int, endF (o.nxt (sRet (mVals dDispL (aCons (mOf (mCB dList (aCons (mOf (mCut (mBw 0) pNone (pSome (mCon (.int 63))))) aNil))) (aCons (mOf (mCon (.int 0))) (aCons (mOf (mCon (.int 0))) (aCons (mOf (mVar 1)) (aCons (mOf (mCon (.int 0))) aNil)))))))) = .ok (bagD ns 0 0 m 0, true) [] [] ∧ BagOk ns 0 0 m) fun m x2 h1 h2 => ⟨m, ?_, Nat.zero_le _, by decide, h1, h2⟩
  simp only [hc, z5, bagD, b_ok, b_bad, b_ex, f_ok, f_bad, f_ex, n_nx, n_rt, n_bk, n_ct, n_ex, n_bad, l_nx, l_rt, l_bk, l_ct, l_ex, l_bad, sNx_e, sSeq_e, sBk_e, sCt_e, sRetN_e, sExp_e, kExp_e, sRet_e, kRet_e, sIf_e, kIf_t, kIf_f, sSet_e, kSet_e, svOf_t, svOf_f, sSetC_e, kCell_e, sAsg_e, kG1_e, oF_s, oF_n, gN_e, gT_e, gsNil_e, gsCons_e, sPar_e, kPar1_e, kPar2_e, sPar3_e, kPr1_e, kPr2_e, kPr3_e, sPut_e, kPut1_e, kPut2_e, isLst_l, kPut_e, kPt_e, kPu_e, plGet_e, pG_o, pG_c, plS_e, pS_o, pS_f, plC_e, pC_o, pC_c, mFr_e, kFz_e, mVar_e, kVar_f, kVar_o, mMov_e, kMov_f, kMov_o, mBw_e, kBw_f, kBw_o, mCon_e, mOf_e, kOf_e, o2_e, m2_e, k2a_e, k2b_e, kDB_s, kDB_n, fl_e, m1_e, k1a_e, get_dv, get_bw, sv_f, sv_o, sv_n, de_cell, de_non, de_bool, de_int, de_str, de_fn, de_rol, de_lst, de_tup, de_dct, de_dtt, de_ins, mCB_e, kCB_e, getAll_n, getAll_c, g2_e, mVals_e, kVl_e, vals_n, vals_c, aNil_e, aCons_e, kC1_e, kC2_e, mT_e, kTb_e, tAnd_e, kAn_t, kAn_f, tOr_e, kOr_t, kOr_f, tNot_e, kNt_e, mTru_e, kTr_e, kO_s, dTru_b, mIf_e, kIfe_t, kIfe_f, mAnd_e, kAnd_t, kAnd_f, mOr_e, kOr2_t, kOr2_f, mNot_e, kNot2_e, kFr_o, mFn_e, kF1_e, kFn_e, mFnK_e, kK1_e, v2_e, kK2_e, mMut_e, kMu_e, mMut0_e, oM_e, kMut_e, pNone_e, pSome_e, kPs_e, mCut_e, kCt1_e, kCt2_e, oC3_e, kCt3_e, fM_e, endF_n, endF_r, dAdd_i, dAdd_s, dAdd_l, dAdd_t, dSub_i, dMul_i, dDiv_i, dMod_i, dPow_i, dLt_i, dLe_i, dGt_i, dGe_i, dLt_s, dEq_i, dEq_b, dEq_s, dNe_i, dNe_b, dNe_s, dInt_i, dAbs_i, dLen_l, dLen_r, dLen_t, dLen_s, dIx_l, dIx_r, dIx_t, dList_l, dList_r, dList_t, dTuple_l, dTuple_t, dDispL_e, dDispT_e, dIsN_n, dNotN_n, dIsN_bool, dNotN_bool, dIsN_int, dNotN_int, dIsN_str, dNotN_str, dIsN_lst, dNotN_lst, dIsN_tup, dNotN_tup, dIsi_non, dIsiT_non, dIsi_bool, dIsiT_bool, dIsi_int, dIsiT_int, dIsi_str, dIsiT_str, dIsi_lst, dIsiT_lst, dIsi_rol, dIsiT_rol, dIsi_tup, dIsiT_tup, mChain_e, kH1_e, kH2_e, kH3_t, kH3_f, kH4_e, mM1_e, kM1_e, kM2_e, kM3_e, mJs_n, mJs_c, kJ_e, dFmt_s, dNeg_i, dDivmod_e, dMax2_e, dMin2_e, dCut_l, dCut_r, dCut_t, dCut_s, dPop_e, fApp_e, List.getElem?_cons_zero, List.getElem?_cons_succ, List.set_cons_zero, List.set_cons_succ, Option.bind_some, Option.bind_none, Option.map_some, Option.map_none, List.map_cons, List.map_nil, List.length_cons, List.length_nil, List.replicate, List.cons_append, List.nil_append, List.set_set, if_true, if_false, ite_true, ite_false, reduceIte, Nat.reduceAdd, Nat.reduceSub, Nat.zero_add, Nat.add_zero, Bool.not_true, Bool.not_false, decide_true, decide_false, Bool.true_and, Bool.and_true, Bool.false_and, Bool.and_false, Bool.or_true, Bool.true_or, Bool.or_false, Bool.false_or, eq_self]
  rfl
end KW

set_option Elab.async false
set_option linter.all false
set_option maxRecDepth 100000
namespace KW
open PySem PySem.Spec L2 EV
open PyProof.Rows hiding St
theorem law_ok (ns : List Int) (hl : ns.length ≤ 63) : ∃ c', f_law [.rol (ns.map .int)] [] = .ok (.bool true, false) [] c' := by
  obtain ⟨m, hb, bo⟩ := bag_ok ns hl
  have B0 : Bg [bagD ns 0 0 m 0] := ⟨_, _, _, _, _, rfl, bo⟩
  generalize bagD ns 0 0 m 0 = b0 at hb B0
  have e1 : sSetC 1 (mFn 1 f__law_bag (aCons (mOf (mVar 0)) aNil)) [.fz (.rol (ns.map .int)), .no, .no, .no] [] = .nx [.fz (.rol (ns.map .int)), .fz (.cell 0), .no, .no] [b0] := by
    simp only [hb, b_ok, b_bad, b_ex, f_ok, f_bad, f_ex, n_nx, n_rt, n_bk, n_ct, n_ex, n_bad, l_nx, l_rt, l_bk, l_ct, l_ex, l_bad, sNx_e, sSeq_e, sBk_e, sCt_e, sRetN_e, sExp_e, kExp_e, sRet_e, kRet_e, sIf_e, kIf_t, kIf_f, sSet_e, kSet_e, svOf_t, svOf_f, sSetC_e, kCell_e, sAsg_e, kG1_e, oF_s, oF_n, gN_e, gT_e, gsNil_e, gsCons_e, sPar_e, kPar1_e, kPar2_e, sPar3_e, kPr1_e, kPr2_e, kPr3_e, sPut_e, kPut1_e, kPut2_e, isLst_l, kPut_e, kPt_e, kPu_e, plGet_e, pG_o, pG_c, plS_e, pS_o, pS_f, plC_e, pC_o, pC_c, mFr_e, kFz_e, mVar_e, kVar_f, kVar_o, mMov_e, kMov_f, kMov_o, mBw_e, kBw_f, kBw_o, mCon_e, mOf_e, kOf_e, o2_e, m2_e, k2a_e, k2b_e, kDB_s, kDB_n, fl_e, m1_e, k1a_e, get_dv, get_bw, sv_f, sv_o, sv_n, de_cell, de_non, de_bool, de_int, de_str, de_fn, de_rol, de_lst, de_tup, de_dct, de_dtt, de_ins, mCB_e, kCB_e, getAll_n, getAll_c, g2_e, mVals_e, kVl_e, vals_n, vals_c, aNil_e, aCons_e, kC1_e, kC2_e, mT_e, kTb_e, tAnd_e, kAn_t, kAn_f, tOr_e, kOr_t, kOr_f, tNot_e, kNt_e, mTru_e, kTr_e, kO_s, dTru_b, mIf_e, kIfe_t, kIfe_f, mAnd_e, kAnd_t, kAnd_f, mOr_e, kOr2_t, kOr2_f, mNot_e, kNot2_e, kFr_o, mFn_e, kF1_e, kFn_e, mFnK_e, kK1_e, v2_e, kK2_e, mMut_e, kMu_e, mMut0_e, oM_e, kMut_e, pNone_e, pSome_e, kPs_e, mCut_e, kCt1_e, kCt2_e, oC3_e, kCt3_e, fM_e, endF_n, endF_r, dAdd_i, dAdd_s, dAdd_l, dAdd_t, dSub_i, dMul_i, dDiv_i, dMod_i, dPow_i, dLt_i, dLe_i, dGt_i, dGe_i, dLt_s, dEq_i, dEq_b, dEq_s, dNe_i, dNe_b, dNe_s, dInt_i, dAbs_i, dLen_l, dLen_r, dLen_t, dLen_s, dIx_l, dIx_r, dIx_t, dList_l, dList_r, dList_t, dTuple_l, dTuple_t, dDispL_e, dDispT_e, dIsN_n, dNotN_n, dIsN_bool, dNotN_bool, dIsN_int, dNotN_int, dIsN_str, dNotN_str, dIsN_lst, dNotN_lst, dIsN_tup, dNotN_tup, dIsi_non, dIsiT_non, dIsi_bool, dIsiT_bool, dIsi_int, dIsiT_int, dIsi_str, dIsiT_str, dIsi_lst, dIsiT_lst, dIsi_rol, dIsiT_rol, dIsi_tup, dIsiT_tup, mChain_e, kH1_e, kH2_e, kH3_t, kH3_f, kH4_e, mM1_e, kM1_e, kM2_e, kM3_e, mJs_n, mJs_c, kJ_e, dFmt_s, dNeg_i, dDivmod_e, dMax2_e, dMin2_e, dCut_l, dCut_r, dCut_t, dCut_s, dPop_e, fApp_e, List.getElem?_cons_zero, List.getElem?_cons_succ, List.set_cons_zero, List.set_cons_succ, Option.bind_some, Option.bind_none, Option.map_some, Option.map_none, List.map_cons, List.map_nil, List.length_cons, List.length_nil, List.replicate, List.cons_append, List.nil_append, List.set_set, if_true, if_false, ite_true, ite_false, reduceIte, Nat.reduceAdd, Nat.reduceSub, Nat.zero_add, Nat.add_zero, Bool.not_true, Bool.not_false, decide_true, decide_false, Bool.true_and, Bool.and_true, Bool.false_and, Bool.and_false, Bool.or_true, Bool.true_or, Bool.or_false, Bool.false_or, eq_self]
  have z0 : ((0 : Nat) ≤ sizeLine) = True := lineN (by decide)
  have z1 : ((1 : Nat) ≤ sizeLine) = True := lineN (by decide)
  have z2 : ((2 : Nat) ≤ sizeLine) = True := lineN (by decide)
  have z7 : ((7 : Nat) ≤ sizeLine) = True := lineN (by decide)
  have z10 : ((10 : Nat) ≤ sizeLine) = True := lineN (by decide)
  have A : ∀ (x : Str) (n : Nat), x.length ≤ n → x.cps.toList.all (· < 128) = true → n ≤ 100 → ∀ k, Th k (.str x) := fun x n h1 h2 h3 k => .str (ascs x n h1 h2 h3)
  have a1 : ∀ k, Th k (.str "a") := A "a" 1 (by decide) (by decide) (by decide)
  have b1 : ∀ k, Th k (.str "b") := A "b" 1 (by decide) (by decide) (by decide)
  have aa : ∀ k, Th k (.str "aa") := A "aa" 2 (by decide) (by decide) (by decide)
  have two : ∀ {n : Nat} {x y : EV.D}, Th n x → Th n y → Th (n + 1) (.tup [x, y]) := fun {n x y} h k => .tup (by simp) fun d hd => by
    have : d = x ∨ d = y := by simpa using hd
    rcases this with rfl | rfl
    · exact h
    · exact k
  have one : ∀ {n : Nat} {x : EV.D}, Th n x → Th (n + 1) (.tup [x]) := fun {n x} h => .tup (by simp) fun d hd => by
    have : d = x := by simpa using hd
    rw [this]
    exact h
  have loop1 : ∀ Q : Fl → Prop, (∀ x2 c, Bg c → Q (.nx [.fz (.rol (ns.map .int)), .fz (.cell 0), x2, .no] c)) →
      Q (sFor (iRng1 (aCons (mOf (mCon (.int 8))) aNil)) (gN 2) (sSeq (sIf (tOrM (tNotM (mTru (mOf (mFn 1 f__law_judged (aCons (mOf (mFn 1 f__law_string (aCons (mOf (mVar 1)) aNil))) aNil))))) (tNotM (mTru (mOf (mFn 1 f__law_judged (aCons (mOf (mFn 1 f__law_things (aCons (mOf (mVar 1)) aNil))) aNil)))))) (sRet (mCon (.bool false))) sNx) (sIf (tNotM (mTru (mOf (mFn 1 f__law_judged (aCons (mOf (mFn 2 f__law_odd (aCons (mOf (mVar 1)) (aCons (mOf (mVals dDispL (aCons (mOf (mVals dDispT (aCons (mOf (mCon (.str "a"))) (aCons (mOf (mCon (.str "aa"))) aNil)))) (aCons (mOf (mVals dDispT (aCons (mOf (mCon (.str "b"))) (aCons (mOf (mCon (.str "a"))) aNil)))) (aCons (mOf (mVals dDispT (aCons (mOf (mCon (.str "a"))) (aCons (mOf (mCon (.str "a"))) aNil)))) (aCons (mOf (mVals dDispT (aCons (mOf (mCon (.str "a"))) (aCons (mOf (mCon (.bool true))) aNil)))) (aCons (mOf (mVals dDispT (aCons (mOf (mCon .non)) aNil))) (aCons (mOf (mCon (.int 0))) (aCons (mOf (mCon (.int 1))) aNil))))))))) aNil)))) aNil))))) (sRet (mCon (.bool false))) sNx)) [.fz (.rol (ns.map .int)), .fz (.cell 0), .no, .no] [b0]) := by
    intro Q hQ
    refine sFor_go (ds := rngD 0 8) (s1 := [.fz (.rol (ns.map .int)), .fz (.cell 0), .no, .no]) (c1 := [b0]) (iRng1_e (ods := [.dv (.int 8)]) (j := 8) (by simp only [b_ok, b_bad, b_ex, f_ok, f_bad, f_ex, n_nx, n_rt, n_bk, n_ct, n_ex, n_bad, l_nx, l_rt, l_bk, l_ct, l_ex, l_bad, sNx_e, sSeq_e, sBk_e, sCt_e, sRetN_e, sExp_e, kExp_e, sRet_e, kRet_e, sIf_e, kIf_t, kIf_f, sSet_e, kSet_e, svOf_t, svOf_f, sSetC_e, kCell_e, sAsg_e, kG1_e, oF_s, oF_n, gN_e, gT_e, gsNil_e, gsCons_e, sPar_e, kPar1_e, kPar2_e, sPar3_e, kPr1_e, kPr2_e, kPr3_e, sPut_e, kPut1_e, kPut2_e, isLst_l, kPut_e, kPt_e, kPu_e, plGet_e, pG_o, pG_c, plS_e, pS_o, pS_f, plC_e, pC_o, pC_c, mFr_e, kFz_e, mVar_e, kVar_f, kVar_o, mMov_e, kMov_f, kMov_o, mBw_e, kBw_f, kBw_o, mCon_e, mOf_e, kOf_e, o2_e, m2_e, k2a_e, k2b_e, kDB_s, kDB_n, fl_e, m1_e, k1a_e, get_dv, get_bw, sv_f, sv_o, sv_n, de_cell, de_non, de_bool, de_int, de_str, de_fn, de_rol, de_lst, de_tup, de_dct, de_dtt, de_ins, mCB_e, kCB_e, getAll_n, getAll_c, g2_e, mVals_e, kVl_e, vals_n, vals_c, aNil_e, aCons_e, kC1_e, kC2_e, mT_e, kTb_e, tAnd_e, kAn_t, kAn_f, tOr_e, kOr_t, kOr_f, tNot_e, kNt_e, mTru_e, kTr_e, kO_s, dTru_b, mIf_e, kIfe_t, kIfe_f, mAnd_e, kAnd_t, kAnd_f, mOr_e, kOr2_t, kOr2_f, mNot_e, kNot2_e, kFr_o, mFn_e, kF1_e, kFn_e, mFnK_e, kK1_e, v2_e, kK2_e, mMut_e, kMu_e, mMut0_e, oM_e, kMut_e, pNone_e, pSome_e, kPs_e, mCut_e, kCt1_e, kCt2_e, oC3_e, kCt3_e, fM_e, endF_n, endF_r, dAdd_i, dAdd_s, dAdd_l, dAdd_t, dSub_i, dMul_i, dDiv_i, dMod_i, dPow_i, dLt_i, dLe_i, dGt_i, dGe_i, dLt_s, dEq_i, dEq_b, dEq_s, dNe_i, dNe_b, dNe_s, dInt_i, dAbs_i, dLen_l, dLen_r, dLen_t, dLen_s, dIx_l, dIx_r, dIx_t, dList_l, dList_r, dList_t, dTuple_l, dTuple_t, dDispL_e, dDispT_e, dIsN_n, dNotN_n, dIsN_bool, dNotN_bool, dIsN_int, dNotN_int, dIsN_str, dNotN_str, dIsN_lst, dNotN_lst, dIsN_tup, dNotN_tup, dIsi_non, dIsiT_non, dIsi_bool, dIsiT_bool, dIsi_int, dIsiT_int, dIsi_str, dIsiT_str, dIsi_lst, dIsiT_lst, dIsi_rol, dIsiT_rol, dIsi_tup, dIsiT_tup, mChain_e, kH1_e, kH2_e, kH3_t, kH3_f, kH4_e, mM1_e, kM1_e, kM2_e, kM3_e, mJs_n, mJs_c, kJ_e, dFmt_s, dNeg_i, dDivmod_e, dMax2_e, dMin2_e, dCut_l, dCut_r, dCut_t, dCut_s, dPop_e, fApp_e, List.getElem?_cons_zero, List.getElem?_cons_succ, List.set_cons_zero, List.set_cons_succ, Option.bind_some, Option.bind_none, Option.map_some, Option.map_none, List.map_cons, List.map_nil, List.length_cons, List.length_nil, List.replicate, List.cons_append, List.nil_append, List.set_set, if_true, if_false, ite_true, ite_false, reduceIte, Nat.reduceAdd, Nat.reduceSub, Nat.zero_add, Nat.add_zero, Bool.not_true, Bool.not_false, decide_true, decide_false, Bool.true_and, Bool.and_true, Bool.false_and, Bool.and_false, Bool.or_true, Bool.true_or, Bool.or_false, Bool.false_or, eq_self]) (by simp only [b_ok, b_bad, b_ex, f_ok, f_bad, f_ex, n_nx, n_rt, n_bk, n_ct, n_ex, n_bad, l_nx, l_rt, l_bk, l_ct, l_ex, l_bad, sNx_e, sSeq_e, sBk_e, sCt_e, sRetN_e, sExp_e, kExp_e, sRet_e, kRet_e, sIf_e, kIf_t, kIf_f, sSet_e, kSet_e, svOf_t, svOf_f, sSetC_e, kCell_e, sAsg_e, kG1_e, oF_s, oF_n, gN_e, gT_e, gsNil_e, gsCons_e, sPar_e, kPar1_e, kPar2_e, sPar3_e, kPr1_e, kPr2_e, kPr3_e, sPut_e, kPut1_e, kPut2_e, isLst_l, kPut_e, kPt_e, kPu_e, plGet_e, pG_o, pG_c, plS_e, pS_o, pS_f, plC_e, pC_o, pC_c, mFr_e, kFz_e, mVar_e, kVar_f, kVar_o, mMov_e, kMov_f, kMov_o, mBw_e, kBw_f, kBw_o, mCon_e, mOf_e, kOf_e, o2_e, m2_e, k2a_e, k2b_e, kDB_s, kDB_n, fl_e, m1_e, k1a_e, get_dv, get_bw, sv_f, sv_o, sv_n, de_cell, de_non, de_bool, de_int, de_str, de_fn, de_rol, de_lst, de_tup, de_dct, de_dtt, de_ins, mCB_e, kCB_e, getAll_n, getAll_c, g2_e, mVals_e, kVl_e, vals_n, vals_c, aNil_e, aCons_e, kC1_e, kC2_e, mT_e, kTb_e, tAnd_e, kAn_t, kAn_f, tOr_e, kOr_t, kOr_f, tNot_e, kNt_e, mTru_e, kTr_e, kO_s, dTru_b, mIf_e, kIfe_t, kIfe_f, mAnd_e, kAnd_t, kAnd_f, mOr_e, kOr2_t, kOr2_f, mNot_e, kNot2_e, kFr_o, mFn_e, kF1_e, kFn_e, mFnK_e, kK1_e, v2_e, kK2_e, mMut_e, kMu_e, mMut0_e, oM_e, kMut_e, pNone_e, pSome_e, kPs_e, mCut_e, kCt1_e, kCt2_e, oC3_e, kCt3_e, fM_e, endF_n, endF_r, dAdd_i, dAdd_s, dAdd_l, dAdd_t, dSub_i, dMul_i, dDiv_i, dMod_i, dPow_i, dLt_i, dLe_i, dGt_i, dGe_i, dLt_s, dEq_i, dEq_b, dEq_s, dNe_i, dNe_b, dNe_s, dInt_i, dAbs_i, dLen_l, dLen_r, dLen_t, dLen_s, dIx_l, dIx_r, dIx_t, dList_l, dList_r, dList_t, dTuple_l, dTuple_t, dDispL_e, dDispT_e, dIsN_n, dNotN_n, dIsN_bool, dNotN_bool, dIsN_int, dNotN_int, dIsN_str, dNotN_str, dIsN_lst, dNotN_lst, dIsN_tup, dNotN_tup, dIsi_non, dIsiT_non, dIsi_bool, dIsiT_bool, dIsi_int, dIsiT_int, dIsi_str, dIsiT_str, dIsi_lst, dIsiT_lst, dIsi_rol, dIsiT_rol, dIsi_tup, dIsiT_tup, mChain_e, kH1_e, kH2_e, kH3_t, kH3_f, kH4_e, mM1_e, kM1_e, kM2_e, kM3_e, mJs_n, mJs_c, kJ_e, dFmt_s, dNeg_i, dDivmod_e, dMax2_e, dMin2_e, dCut_l, dCut_r, dCut_t, dCut_s, dPop_e, fApp_e, List.getElem?_cons_zero, List.getElem?_cons_succ, List.set_cons_zero, List.set_cons_succ, Option.bind_some, Option.bind_none, Option.map_some, Option.map_none, List.map_cons, List.map_nil, List.length_cons, List.length_nil, List.replicate, List.cons_append, List.nil_append, List.set_set, if_true, if_false, ite_true, ite_false, reduceIte, Nat.reduceAdd, Nat.reduceSub, Nat.zero_add, Nat.add_zero, Bool.not_true, Bool.not_false, decide_true, decide_false, Bool.true_and, Bool.and_true, Bool.false_and, Bool.and_false, Bool.or_true, Bool.true_or, Bool.or_false, Bool.false_or, eq_self]) (by decide)) (fun i s c => ∃ x2, s = [.fz (.rol (ns.map .int)), .fz (.cell 0), x2, .no] ∧ Bg c) Q ⟨_, rfl, B0⟩
      (fun s c ⟨x2, e, b⟩ => by rw [e]; exact hQ x2 c b) fun i d s c he ⟨x2, e, b⟩ => ?_
    subst e
    refine ⟨_, rfl, ?_⟩
    obtain ⟨w, c1, h1, b1', t1⟩ := string_ok b
    have j1 := judged_ok (n := 0) (c := c1) (d := .str w) (.str (t1.asc (by decide))) (by decide)
    obtain ⟨th, bb, c2, h2, b2, t2⟩ := things_ok b1'
    have j2 := judged_ok (c := c2) t2 (by decide)
    obtain ⟨od, c3, h3, b3, t3⟩ := odd_ok (more := [.tup [.str "a", .str "aa"], .tup [.str "b", .str "a"], .tup [.str "a", .str "a"], .tup [.str "a", .bool true], .tup [.non], .int 0, .int 1]) b2 (fun d hd => by
      simp only [List.mem_cons, List.not_mem_nil, or_false] at hd
      rcases hd with rfl | rfl | rfl | rfl | rfl | rfl | rfl
      · exact two (a1 _) (aa _)
      · exact two (b1 _) (a1 _)
      · exact two (a1 _) (a1 _)
      · exact two (a1 _) (.bool _)
      · exact one .non
      · exact .int _
      · exact .int _) (by simp)
    have j3 := judged_ok (c := c3) t3 (by decide)
    simp only [h1, j1, h2, j2, h3, j3, z1, z2, z7, b_ok, b_bad, b_ex, f_ok, f_bad, f_ex, n_nx, n_rt, n_bk, n_ct, n_ex, n_bad, l_nx, l_rt, l_bk, l_ct, l_ex, l_bad, sNx_e, sSeq_e, sBk_e, sCt_e, sRetN_e, sExp_e, kExp_e, sRet_e, kRet_e, sIf_e, kIf_t, kIf_f, sSet_e, kSet_e, svOf_t, svOf_f, sSetC_e, kCell_e, sAsg_e, kG1_e, oF_s, oF_n, gN_e, gT_e, gsNil_e, gsCons_e, sPar_e, kPar1_e, kPar2_e, sPar3_e, kPr1_e, kPr2_e, kPr3_e, sPut_e, kPut1_e, kPut2_e, isLst_l, kPut_e, kPt_e, kPu_e, plGet_e, pG_o, pG_c, plS_e, pS_o, pS_f, plC_e, pC_o, pC_c, mFr_e, kFz_e, mVar_e, kVar_f, kVar_o, mMov_e, kMov_f, kMov_o, mBw_e, kBw_f, kBw_o, mCon_e, mOf_e, kOf_e, o2_e, m2_e, k2a_e, k2b_e, kDB_s, kDB_n, fl_e, m1_e, k1a_e, get_dv, get_bw, sv_f, sv_o, sv_n, de_cell, de_non, de_bool, de_int, de_str, de_fn, de_rol, de_lst, de_tup, de_dct, de_dtt, de_ins, mCB_e, kCB_e, getAll_n, getAll_c, g2_e, mVals_e, kVl_e, vals_n, vals_c, aNil_e, aCons_e, kC1_e, kC2_e, mT_e, kTb_e, tAnd_e, kAn_t, kAn_f, tOr_e, kOr_t, kOr_f, tNot_e, kNt_e, mTru_e, kTr_e, kO_s, dTru_b, mIf_e, kIfe_t, kIfe_f, mAnd_e, kAnd_t, kAnd_f, mOr_e, kOr2_t, kOr2_f, mNot_e, kNot2_e, kFr_o, mFn_e, kF1_e, kFn_e, mFnK_e, kK1_e, v2_e, kK2_e, mMut_e, kMu_e, mMut0_e, oM_e, kMut_e, pNone_e, pSome_e, kPs_e, mCut_e, kCt1_e, kCt2_e, oC3_e, kCt3_e, fM_e, endF_n, endF_r, dAdd_i, dAdd_s, dAdd_l, dAdd_t, dSub_i, dMul_i, dDiv_i, dMod_i, dPow_i, dLt_i, dLe_i, dGt_i, dGe_i, dLt_s, dEq_i, dEq_b, dEq_s, dNe_i, dNe_b, dNe_s, dInt_i, dAbs_i, dLen_l, dLen_r, dLen_t, dLen_s, dIx_l, dIx_r, dIx_t, dList_l, dList_r, dList_t, dTuple_l, dTuple_t, dDispL_e, dDispT_e, dIsN_n, dNotN_n, dIsN_bool, dNotN_bool, dIsN_int, dNotN_int, dIsN_str, dNotN_str, dIsN_lst, dNotN_lst, dIsN_tup, dNotN_tup, dIsi_non, dIsiT_non, dIsi_bool, dIsiT_bool, dIsi_int, dIsiT_int, dIsi_str, dIsiT_str, dIsi_lst, dIsiT_lst, dIsi_rol, dIsiT_rol, dIsi_tup, dIsiT_tup, mChain_e, kH1_e, kH2_e, kH3_t, kH3_f, kH4_e, mM1_e, kM1_e, kM2_e, kM3_e, mJs_n, mJs_c, kJ_e, dFmt_s, dNeg_i, dDivmod_e, dMax2_e, dMin2_e, dCut_l, dCut_r, dCut_t, dCut_s, dPop_e, fApp_e, List.getElem?_cons_zero, List.getElem?_cons_succ, List.set_cons_zero, List.set_cons_succ, Option.bind_some, Option.bind_none, Option.map_some, Option.map_none, List.map_cons, List.map_nil, List.length_cons, List.length_nil, List.replicate, List.cons_append, List.nil_append, List.set_set, if_true, if_false, ite_true, ite_false, reduceIte, Nat.reduceAdd, Nat.reduceSub, Nat.zero_add, Nat.add_zero, Bool.not_true, Bool.not_false, decide_true, decide_false, Bool.true_and, Bool.and_true, Bool.false_and, Bool.and_false, Bool.or_true, Bool.true_or, Bool.or_false, Bool.false_or, eq_self]
    exact ⟨_, rfl, b3⟩
  have loop2 : ∀ (x2 : SV) (c : CL) (B : Bg c) (Q : Fl → Prop), (∀ x3 c, Bg c → Q (.nx [.fz (.rol (ns.map .int)), .fz (.cell 0), x2, x3] c)) →
      Q (sFor (iAny (mOf (mVals dDispL (aCons (mOf (mCon (.str "abcdef"))) (aCons (mOf (mCon (.str "abcdefg"))) (aCons (mOf (mCon (.str "abcdefghijkl"))) (aCons (mOf (mCon (.str "abcdefghijklm"))) (aCons (mOf (mCon (.str ""))) (aCons (mOf (mVals dDispT aNil)) (aCons (mOf (mVals dDispL aNil)) (aCons (mOf (mVals dDispT (aCons (mOf (mCon (.str ""))) aNil))) (aCons (mOf (mVals dDispT (aCons (mOf (mVals dDispT (aCons (mOf (mCon (.str "a"))) aNil))) (aCons (mOf (mCon (.str "b"))) aNil)))) (aCons (mOf (mCon (.str "a\n"))) aNil))))))))))))) (gN 3) (sIf (tNotM (mTru (mOf (mFn 1 f__law_judged (aCons (mOf (mVar 3)) aNil))))) (sRet (mCon (.bool false))) sNx) [.fz (.rol (ns.map .int)), .fz (.cell 0), x2, .no] c) := by
    intro x2 c B Q hQ
    refine sFor_go (ds := [.str "abcdef", .str "abcdefg", .str "abcdefghijkl", .str "abcdefghijklm", .str "", .tup [], .lst [], .tup [.str ""], .tup [.tup [.str "a"], .str "b"], .str "a\n"]) (s1 := [.fz (.rol (ns.map .int)), .fz (.cell 0), x2, .no]) (c1 := c) (iAny_l (by simp only [z0, z1, z2, z10, b_ok, b_bad, b_ex, f_ok, f_bad, f_ex, n_nx, n_rt, n_bk, n_ct, n_ex, n_bad, l_nx, l_rt, l_bk, l_ct, l_ex, l_bad, sNx_e, sSeq_e, sBk_e, sCt_e, sRetN_e, sExp_e, kExp_e, sRet_e, kRet_e, sIf_e, kIf_t, kIf_f, sSet_e, kSet_e, svOf_t, svOf_f, sSetC_e, kCell_e, sAsg_e, kG1_e, oF_s, oF_n, gN_e, gT_e, gsNil_e, gsCons_e, sPar_e, kPar1_e, kPar2_e, sPar3_e, kPr1_e, kPr2_e, kPr3_e, sPut_e, kPut1_e, kPut2_e, isLst_l, kPut_e, kPt_e, kPu_e, plGet_e, pG_o, pG_c, plS_e, pS_o, pS_f, plC_e, pC_o, pC_c, mFr_e, kFz_e, mVar_e, kVar_f, kVar_o, mMov_e, kMov_f, kMov_o, mBw_e, kBw_f, kBw_o, mCon_e, mOf_e, kOf_e, o2_e, m2_e, k2a_e, k2b_e, kDB_s, kDB_n, fl_e, m1_e, k1a_e, get_dv, get_bw, sv_f, sv_o, sv_n, de_cell, de_non, de_bool, de_int, de_str, de_fn, de_rol, de_lst, de_tup, de_dct, de_dtt, de_ins, mCB_e, kCB_e, getAll_n, getAll_c, g2_e, mVals_e, kVl_e, vals_n, vals_c, aNil_e, aCons_e, kC1_e, kC2_e, mT_e, kTb_e, tAnd_e, kAn_t, kAn_f, tOr_e, kOr_t, kOr_f, tNot_e, kNt_e, mTru_e, kTr_e, kO_s, dTru_b, mIf_e, kIfe_t, kIfe_f, mAnd_e, kAnd_t, kAnd_f, mOr_e, kOr2_t, kOr2_f, mNot_e, kNot2_e, kFr_o, mFn_e, kF1_e, kFn_e, mFnK_e, kK1_e, v2_e, kK2_e, mMut_e, kMu_e, mMut0_e, oM_e, kMut_e, pNone_e, pSome_e, kPs_e, mCut_e, kCt1_e, kCt2_e, oC3_e, kCt3_e, fM_e, endF_n, endF_r, dAdd_i, dAdd_s, dAdd_l, dAdd_t, dSub_i, dMul_i, dDiv_i, dMod_i, dPow_i, dLt_i, dLe_i, dGt_i, dGe_i, dLt_s, dEq_i, dEq_b, dEq_s, dNe_i, dNe_b, dNe_s, dInt_i, dAbs_i, dLen_l, dLen_r, dLen_t, dLen_s, dIx_l, dIx_r, dIx_t, dList_l, dList_r, dList_t, dTuple_l, dTuple_t, dDispL_e, dDispT_e, dIsN_n, dNotN_n, dIsN_bool, dNotN_bool, dIsN_int, dNotN_int, dIsN_str, dNotN_str, dIsN_lst, dNotN_lst, dIsN_tup, dNotN_tup, dIsi_non, dIsiT_non, dIsi_bool, dIsiT_bool, dIsi_int, dIsiT_int, dIsi_str, dIsiT_str, dIsi_lst, dIsiT_lst, dIsi_rol, dIsiT_rol, dIsi_tup, dIsiT_tup, mChain_e, kH1_e, kH2_e, kH3_t, kH3_f, kH4_e, mM1_e, kM1_e, kM2_e, kM3_e, mJs_n, mJs_c, kJ_e, dFmt_s, dNeg_i, dDivmod_e, dMax2_e, dMin2_e, dCut_l, dCut_r, dCut_t, dCut_s, dPop_e, fApp_e, List.getElem?_cons_zero, List.getElem?_cons_succ, List.set_cons_zero, List.set_cons_succ, Option.bind_some, Option.bind_none, Option.map_some, Option.map_none, List.map_cons, List.map_nil, List.length_cons, List.length_nil, List.replicate, List.cons_append, List.nil_append, List.set_set, if_true, if_false, ite_true, ite_false, reduceIte, Nat.reduceAdd, Nat.reduceSub, Nat.zero_add, Nat.add_zero, Bool.not_true, Bool.not_false, decide_true, decide_false, Bool.true_and, Bool.and_true, Bool.false_and, Bool.and_false, Bool.or_true, Bool.true_or, Bool.or_false, Bool.false_or, eq_self])) (fun i s c => ∃ x3, s = [.fz (.rol (ns.map .int)), .fz (.cell 0), x2, x3] ∧ Bg c) Q ⟨_, rfl, B⟩
      (fun s c ⟨x3, e, b⟩ => by rw [e]; exact hQ x3 c b) fun i d s c he ⟨x3, e, b⟩ => ?_
    subst e
    refine ⟨_, rfl, ?_⟩
    have t : Th 2 d := by
      have hm := List.mem_of_getElem? he
      simp only [List.mem_cons, List.not_mem_nil, or_false] at hm
      rcases hm with rfl | rfl | rfl | rfl | rfl | rfl | rfl | rfl | rfl | rfl
      · exact A _ 6 (by decide) (by decide) (by decide) _
      · exact A _ 7 (by decide) (by decide) (by decide) _
      · exact A _ 12 (by decide) (by decide) (by decide) _
      · exact A _ 13 (by decide) (by decide) (by decide) _
      · exact A _ 0 (by decide) (by decide) (by decide) _
      · exact .tup (by simp) fun d hd => by cases hd
      · exact .lst (by simp) fun d hd => by cases hd
      · exact one (A _ 0 (by decide) (by decide) (by decide) _)
      · exact two (one (a1 _)) (b1 _)
      · exact A _ 2 (by decide) (by decide) (by decide) _
    have j := judged_ok (c := c) t (by decide)
    simp only [j, b_ok, b_bad, b_ex, f_ok, f_bad, f_ex, n_nx, n_rt, n_bk, n_ct, n_ex, n_bad, l_nx, l_rt, l_bk, l_ct, l_ex, l_bad, sNx_e, sSeq_e, sBk_e, sCt_e, sRetN_e, sExp_e, kExp_e, sRet_e, kRet_e, sIf_e, kIf_t, kIf_f, sSet_e, kSet_e, svOf_t, svOf_f, sSetC_e, kCell_e, sAsg_e, kG1_e, oF_s, oF_n, gN_e, gT_e, gsNil_e, gsCons_e, sPar_e, kPar1_e, kPar2_e, sPar3_e, kPr1_e, kPr2_e, kPr3_e, sPut_e, kPut1_e, kPut2_e, isLst_l, kPut_e, kPt_e, kPu_e, plGet_e, pG_o, pG_c, plS_e, pS_o, pS_f, plC_e, pC_o, pC_c, mFr_e, kFz_e, mVar_e, kVar_f, kVar_o, mMov_e, kMov_f, kMov_o, mBw_e, kBw_f, kBw_o, mCon_e, mOf_e, kOf_e, o2_e, m2_e, k2a_e, k2b_e, kDB_s, kDB_n, fl_e, m1_e, k1a_e, get_dv, get_bw, sv_f, sv_o, sv_n, de_cell, de_non, de_bool, de_int, de_str, de_fn, de_rol, de_lst, de_tup, de_dct, de_dtt, de_ins, mCB_e, kCB_e, getAll_n, getAll_c, g2_e, mVals_e, kVl_e, vals_n, vals_c, aNil_e, aCons_e, kC1_e, kC2_e, mT_e, kTb_e, tAnd_e, kAn_t, kAn_f, tOr_e, kOr_t, kOr_f, tNot_e, kNt_e, mTru_e, kTr_e, kO_s, dTru_b, mIf_e, kIfe_t, kIfe_f, mAnd_e, kAnd_t, kAnd_f, mOr_e, kOr2_t, kOr2_f, mNot_e, kNot2_e, kFr_o, mFn_e, kF1_e, kFn_e, mFnK_e, kK1_e, v2_e, kK2_e, mMut_e, kMu_e, mMut0_e, oM_e, kMut_e, pNone_e, pSome_e, kPs_e, mCut_e, kCt1_e, kCt2_e, oC3_e, kCt3_e, fM_e, endF_n, endF_r, dAdd_i, dAdd_s, dAdd_l, dAdd_t, dSub_i, dMul_i, dDiv_i, dMod_i, dPow_i, dLt_i, dLe_i, dGt_i, dGe_i, dLt_s, dEq_i, dEq_b, dEq_s, dNe_i, dNe_b, dNe_s, dInt_i, dAbs_i, dLen_l, dLen_r, dLen_t, dLen_s, dIx_l, dIx_r, dIx_t, dList_l, dList_r, dList_t, dTuple_l, dTuple_t, dDispL_e, dDispT_e, dIsN_n, dNotN_n, dIsN_bool, dNotN_bool, dIsN_int, dNotN_int, dIsN_str, dNotN_str, dIsN_lst, dNotN_lst, dIsN_tup, dNotN_tup, dIsi_non, dIsiT_non, dIsi_bool, dIsiT_bool, dIsi_int, dIsiT_int, dIsi_str, dIsiT_str, dIsi_lst, dIsiT_lst, dIsi_rol, dIsiT_rol, dIsi_tup, dIsiT_tup, mChain_e, kH1_e, kH2_e, kH3_t, kH3_f, kH4_e, mM1_e, kM1_e, kM2_e, kM3_e, mJs_n, mJs_c, kJ_e, dFmt_s, dNeg_i, dDivmod_e, dMax2_e, dMin2_e, dCut_l, dCut_r, dCut_t, dCut_s, dPop_e, fApp_e, List.getElem?_cons_zero, List.getElem?_cons_succ, List.set_cons_zero, List.set_cons_succ, Option.bind_some, Option.bind_none, Option.map_some, Option.map_none, List.map_cons, List.map_nil, List.length_cons, List.length_nil, List.replicate, List.cons_append, List.nil_append, List.set_set, if_true, if_false, ite_true, ite_false, reduceIte, Nat.reduceAdd, Nat.reduceSub, Nat.zero_add, Nat.add_zero, Bool.not_true, Bool.not_false, decide_true, decide_false, Bool.true_and, Bool.and_true, Bool.false_and, Bool.and_false, Bool.or_true, Bool.true_or, Bool.or_false, Bool.false_or, eq_self]
    exact ⟨_, rfl, b⟩
  unfold f_law m_law
  simp only [fM_e, List.map_cons, List.map_nil, List.length_cons, List.length_nil, Nat.reduceAdd, Nat.zero_add, Nat.reduceSub, List.replicate, List.cons_append, List.nil_append, sSeq_e, e1, n_nx]
  refine loop1 (fun o => ∃ c', endF (o.nxt _) = .ok (.bool true, false) [] c') fun x2 c B => ?_
  rw [n_nx, sSeq_e]
  refine loop2 x2 c B (fun o => ∃ c', endF (o.nxt _) = .ok (.bool true, false) [] c') fun x3 c3 B3 => ?_
  obtain ⟨c4, h4, b4⟩ := numbers_ok B3
  obtain ⟨c5, h5, b5⟩ := marked_ok b4
  refine ⟨c5, ?_⟩
  simp only [h4, h5, b_ok, b_bad, b_ex, f_ok, f_bad, f_ex, n_nx, n_rt, n_bk, n_ct, n_ex, n_bad, l_nx, l_rt, l_bk, l_ct, l_ex, l_bad, sNx_e, sSeq_e, sBk_e, sCt_e, sRetN_e, sExp_e, kExp_e, sRet_e, kRet_e, sIf_e, kIf_t, kIf_f, sSet_e, kSet_e, svOf_t, svOf_f, sSetC_e, kCell_e, sAsg_e, kG1_e, oF_s, oF_n, gN_e, gT_e, gsNil_e, gsCons_e, sPar_e, kPar1_e, kPar2_e, sPar3_e, kPr1_e, kPr2_e, kPr3_e, sPut_e, kPut1_e, kPut2_e, isLst_l, kPut_e, kPt_e, kPu_e, plGet_e, pG_o, pG_c, plS_e, pS_o, pS_f, plC_e, pC_o, pC_c, mFr_e, kFz_e, mVar_e, kVar_f, kVar_o, mMov_e, kMov_f, kMov_o, mBw_e, kBw_f, kBw_o, mCon_e, mOf_e, kOf_e, o2_e, m2_e, k2a_e, k2b_e, kDB_s, kDB_n, fl_e, m1_e, k1a_e, get_dv, get_bw, sv_f, sv_o, sv_n, de_cell, de_non, de_bool, de_int, de_str, de_fn, de_rol, de_lst, de_tup, de_dct, de_dtt, de_ins, mCB_e, kCB_e, getAll_n, getAll_c, g2_e, mVals_e, kVl_e, vals_n, vals_c, aNil_e, aCons_e, kC1_e, kC2_e, mT_e, kTb_e, tAnd_e, kAn_t, kAn_f, tOr_e, kOr_t, kOr_f, tNot_e, kNt_e, mTru_e, kTr_e, kO_s, dTru_b, mIf_e, kIfe_t, kIfe_f, mAnd_e, kAnd_t, kAnd_f, mOr_e, kOr2_t, kOr2_f, mNot_e, kNot2_e, kFr_o, mFn_e, kF1_e, kFn_e, mFnK_e, kK1_e, v2_e, kK2_e, mMut_e, kMu_e, mMut0_e, oM_e, kMut_e, pNone_e, pSome_e, kPs_e, mCut_e, kCt1_e, kCt2_e, oC3_e, kCt3_e, fM_e, endF_n, endF_r, dAdd_i, dAdd_s, dAdd_l, dAdd_t, dSub_i, dMul_i, dDiv_i, dMod_i, dPow_i, dLt_i, dLe_i, dGt_i, dGe_i, dLt_s, dEq_i, dEq_b, dEq_s, dNe_i, dNe_b, dNe_s, dInt_i, dAbs_i, dLen_l, dLen_r, dLen_t, dLen_s, dIx_l, dIx_r, dIx_t, dList_l, dList_r, dList_t, dTuple_l, dTuple_t, dDispL_e, dDispT_e, dIsN_n, dNotN_n, dIsN_bool, dNotN_bool, dIsN_int, dNotN_int, dIsN_str, dNotN_str, dIsN_lst, dNotN_lst, dIsN_tup, dNotN_tup, dIsi_non, dIsiT_non, dIsi_bool, dIsiT_bool, dIsi_int, dIsiT_int, dIsi_str, dIsiT_str, dIsi_lst, dIsiT_lst, dIsi_rol, dIsiT_rol, dIsi_tup, dIsiT_tup, mChain_e, kH1_e, kH2_e, kH3_t, kH3_f, kH4_e, mM1_e, kM1_e, kM2_e, kM3_e, mJs_n, mJs_c, kJ_e, dFmt_s, dNeg_i, dDivmod_e, dMax2_e, dMin2_e, dCut_l, dCut_r, dCut_t, dCut_s, dPop_e, fApp_e, List.getElem?_cons_zero, List.getElem?_cons_succ, List.set_cons_zero, List.set_cons_succ, Option.bind_some, Option.bind_none, Option.map_some, Option.map_none, List.map_cons, List.map_nil, List.length_cons, List.length_nil, List.replicate, List.cons_append, List.nil_append, List.set_set, if_true, if_false, ite_true, ite_false, reduceIte, Nat.reduceAdd, Nat.reduceSub, Nat.zero_add, Nat.add_zero, Bool.not_true, Bool.not_false, decide_true, decide_false, Bool.true_and, Bool.and_true, Bool.false_and, Bool.and_false, Bool.or_true, Bool.true_or, Bool.or_false, Bool.false_or, eq_self]
end KW

set_option Elab.async false
set_option linter.all false
set_option maxRecDepth 100000
set_option maxHeartbeats 0
namespace KF
open PySem PySem.Spec PyProof.Rows L2 EV
theorem FunD_uniq {K : PySem.W.Frag} {x qual : Str} {params : Arguments} {body : List Stmt} {scope : Scope} {dvs : List V} {kws : List (Str × V)} {f : Addr} {fd fd2 : FuncData} (F : FunD K x qual params body scope dvs kws f fd) (F2 : FunD K x qual params body scope dvs kws f fd2) : fd = fd2 := by
  obtain ⟨_, _, _, _, _, _, _, _, _, _, _, l1, _⟩ := F.ex
  obtain ⟨_, _, _, _, _, _, _, _, _, _, _, l2, _⟩ := F2.ex
  rw [l1] at l2
  injection l2 with l2
  injection l2 with _ _ l2 _
  injection l2
theorem fn_bad {P : Program} {w : World} {mg : Str → Option Value} {base : Heap} {G : Gp} {k : Nat} {x : Str} {st : Stmt} {ps : List Str} {a : Addr} {fd : FuncData} (g : mg x = some (.ref a)) (F : FunD G.K x x (defArgs st) (defBody st) (defScope st) [] [] a fd)
    (bd : ∀ (kV doc pm : Value) (an : Option Addr) (cdv ct : Value) (us : List Value), us.length = ps.length → bindArgs (PySem.W.fnOf x x (defArgs st) (defBody st) (defScope st) .none kV doc pm an cdv ct) ⟨us, []⟩ = pure (ps.zip us)) : Fn P w mg base G k x st ps (fun _ _ => .bad) :=
  ⟨a, fd, g, F, F.bindsN bd, fun vs H Q E h => h.1, fun A outer s H args us vs Q E _ _ _ _ h => by
    obtain ⟨_, W, c, ds, _, _, z⟩ := h
    exact z.elim⟩
abbrev gp (K : PySem.W.Frag) : Gp := ⟨K, fun _ => 0, fun _ => 0, fun _ => Str.empty⟩
theorem rps_ints {G : Gp} {W : Wd} : ∀ ns : List Int, Rps G W (ns.map .int) (ns.map V.int)
  | [] => .nil
  | n :: ns => .cons (.int n) (rps_ints ns)
theorem law_sp {K : PySem.W.Frag} {H : Hp} {a : Addr} {ns : List Int} (hl : ns.length ≤ 63) (hS : SqL K H a (ns.map V.int)) : spEv (gp K) 1 KW.f_law [.ref a] H (fun v _ => v = .bl true) fun _ _ _ => False := by
  obtain ⟨c', e⟩ := KW.law_ok ns hl
  refine ⟨rfl, ⟨H, []⟩, [], [.rol (ns.map .int)], ⟨fun _ _ e => e, fun _ _ e _ => e, fun _ _ e => .inl e, rfl, fun _ e => e, fun _ e => .inl e, List.nodup_nil, fun i d b e1 e2 => by simp at e1, rfl, fun i d e => by simp at e, fun i d e => by simp at e, fun i j d e b h => by simp at h⟩, .cons (.rol hS (rps_ints ns)) .nil, ?_⟩
  rw [e]
  intro W' v H' l R' r
  unfold Rr at r
  rw [if_neg (by decide)] at r
  cases r
  rfl
def d__law_bag : He.DefD := ⟨("_law_bag", none), "_law_bag", "_law_bag", defArgs (KW.top 12), defBody (KW.top 12), defScope (KW.top 12), [], []⟩
def d__law_draw : He.DefD := ⟨("_law_draw", none), "_law_draw", "_law_draw", defArgs (KW.top 13), defBody (KW.top 13), defScope (KW.top 13), [], []⟩
def d__law_of : He.DefD := ⟨("_law_of", none), "_law_of", "_law_of", defArgs (KW.top 14), defBody (KW.top 14), defScope (KW.top 14), [], []⟩
def d__law_odd : He.DefD := ⟨("_law_odd", none), "_law_odd", "_law_odd", defArgs (KW.top 17), defBody (KW.top 17), defScope (KW.top 17), [], []⟩
def d__law_whole : He.DefD := ⟨("_law_whole", none), "_law_whole", "_law_whole", defArgs (KW.top 20), defBody (KW.top 20), defScope (KW.top 20), [], []⟩
def d__law_same : He.DefD := ⟨("_law_same", none), "_law_same", "_law_same", defArgs (KW.top 16), defBody (KW.top 16), defScope (KW.top 16), [], []⟩
def d_is_number : He.DefD := ⟨("is_number", none), "is_number", "is_number", defArgs (KW.top 7), defBody (KW.top 7), defScope (KW.top 7), [], []⟩
def d__law_numbers : He.DefD := ⟨("_law_numbers", none), "_law_numbers", "_law_numbers", defArgs (KW.top 26), defBody (KW.top 26), defScope (KW.top 26), [], []⟩
def d_nth_mark : He.DefD := ⟨("nth_mark", none), "nth_mark", "nth_mark", defArgs (KW.top 10), defBody (KW.top 10), defScope (KW.top 10), [], []⟩
def d__law_mark : He.DefD := ⟨("_law_mark", none), "_law_mark", "_law_mark", defArgs (KW.top 21), defBody (KW.top 21), defScope (KW.top 21), [], []⟩
def d__law_marked : He.DefD := ⟨("_law_marked", none), "_law_marked", "_law_marked", defArgs (KW.top 27), defBody (KW.top 27), defScope (KW.top 27), [], []⟩
def d_is_spelled : He.DefD := ⟨("is_spelled", none), "is_spelled", "is_spelled", defArgs (KW.top 4), defBody (KW.top 4), defScope (KW.top 4), [], []⟩
def d_is_name : He.DefD := ⟨("is_name", none), "is_name", "is_name", defArgs (KW.top 5), defBody (KW.top 5), defScope (KW.top 5), [], []⟩
def d_is_long_word : He.DefD := ⟨("is_long_word", none), "is_long_word", "is_long_word", defArgs (KW.top 6), defBody (KW.top 6), defScope (KW.top 6), [], []⟩
def d_is_names : He.DefD := ⟨("is_names", none), "is_names", "is_names", defArgs (KW.top 8), defBody (KW.top 8), defScope (KW.top 8), [], []⟩
def d_is_group : He.DefD := ⟨("is_group", none), "is_group", "is_group", defArgs (KW.top 9), defBody (KW.top 9), defScope (KW.top 9), [], []⟩
def d__law_letters : He.DefD := ⟨("_law_letters", none), "_law_letters", "_law_letters", defArgs (KW.top 19), defBody (KW.top 19), defScope (KW.top 19), [], []⟩
def d__law_group_so : He.DefD := ⟨("_law_group_so", none), "_law_group_so", "_law_group_so", defArgs (KW.top 22), defBody (KW.top 22), defScope (KW.top 22), [], []⟩
def d__law_judged : He.DefD := ⟨("_law_judged", none), "_law_judged", "_law_judged", defArgs (KW.top 25), defBody (KW.top 25), defScope (KW.top 25), [], []⟩
def d__law_string : He.DefD := ⟨("_law_string", none), "_law_string", "_law_string", defArgs (KW.top 23), defBody (KW.top 23), defScope (KW.top 23), [], []⟩
def d__law_names : He.DefD := ⟨("_law_names", none), "_law_names", "_law_names", defArgs (KW.top 18), defBody (KW.top 18), defScope (KW.top 18), [], []⟩
def d__law_mixed : He.DefD := ⟨("_law_mixed", none), "_law_mixed", "_law_mixed", defArgs (KW.top 15), defBody (KW.top 15), defScope (KW.top 15), [], []⟩
def d__law_things : He.DefD := ⟨("_law_things", none), "_law_things", "_law_things", defArgs (KW.top 24), defBody (KW.top 24), defScope (KW.top 24), [], []⟩
def d_law : He.DefD := ⟨("law", none), "law", "law", defArgs (KW.top 28), defBody (KW.top 28), defScope (KW.top 28), [], []⟩
def nm0 : List Str := ["LETTERS", "NAME_LENGTH", "LONG_LENGTH", "is_spelled", "is_name", "is_long_word", "is_number", "is_names", "is_group", "nth_mark", "_law_bag", "_law_draw", "_law_of", "_law_mixed", "_law_same", "_law_odd", "_law_names", "_law_letters", "_law_whole", "_law_mark", "_law_group_so", "_law_string", "_law_things", "_law_judged", "_law_numbers", "_law_marked"]
def names : List Str := nm0
def fn : List He.DefD := [d__law_bag, d__law_draw, d__law_of, d__law_odd, d__law_whole, d__law_same, d_is_number, d__law_numbers, d_nth_mark, d__law_mark, d__law_marked, d_is_spelled, d_is_name, d_is_long_word, d_is_names, d_is_group, d__law_letters, d__law_group_so, d__law_judged, d__law_string, d__law_names, d__law_mixed, d__law_things, d_law]
def fa : List He.Fa := [.glo "_law_bag", .glo "_law_draw", .glo "_law_of", .glo "_law_odd", .glo "_law_whole", .glo "_law_same", .glo "is_number", .glo "_law_numbers", .glo "nth_mark", .glo "_law_mark", .glo "_law_marked", .glo "is_spelled", .glo "is_name", .glo "is_long_word", .glo "is_names", .glo "is_group", .glo "_law_letters", .glo "_law_group_so", .glo "_law_judged", .glo "_law_string", .glo "_law_names", .glo "_law_mixed", .glo "_law_things", .glo "law", .free "int", .free "list", .free "abs", .free "len", .free "bool", .free "isinstance", .free "all", .free "str", .free "tuple", .free "zip", .free "max", .free "divmod", .free "range", .free "set", .free "sorted", .str "LETTERS" "abcdefghijklmnopqrstuvwxyz", .int "NAME_LENGTH" 6, .int "LONG_LENGTH" 12]
abbrev R : PySem.W.OpenRow := PySem.W.OpenLaw.row PySem.Challenge.rw_firstdecides_k01_words_and_marks
abbrev hk : PySem.W.Hook := He.hookD 4 fa fn
def ob (s : PySem.W.SharedT) : He.AlD := He.obsDG 4 fa fn (HandSHeadRun.getT s)
theorem ob_eq (s : PySem.W.SharedT) : ob s = hk.obs s.abs := He.obsDG_eq (HandSHeadRun.getT_eq s)
theorem run (w : World) : HandSHeadRun.RunEq R (PySem.W.view R.prog [28]) hk ob 20000 names w := by
  intro os
  kernel_rfl
theorem facts {P : Program} {w : World} {K : PySem.W.Frag} {h : Heap} {mg : Str → Option Value} {f : Addr} (X : K.In h) (Gm : h.Ns mainGlobals mg) (hfa : mg ("law" : Str) = some (.ref f)) (c : He.SaysD fa fn K) :
    ∃ fd : FuncData, (∀ (s : Shared) (v : Value), BindsTo s fd ⟨[v], []⟩ [("_law_script", v)]) ∧ ∀ base : Heap, K.In base → base.Ns mainGlobals mg → FnOk P w K mg base CX0 8 f fd ["_law_script"] (spEv (gp K) 1 KW.f_law) := by
  obtain ⟨fd__law_bag, F__law_bag⟩ := c.def_ 0 (d := d__law_bag) rfl
  have p__law_bag := He.glo_ok X Gm (c.fact 0 (f := .glo "_law_bag") rfl)
  obtain ⟨fd__law_draw, F__law_draw⟩ := c.def_ 1 (d := d__law_draw) rfl
  have p__law_draw := He.glo_ok X Gm (c.fact 1 (f := .glo "_law_draw") rfl)
  obtain ⟨fd__law_of, F__law_of⟩ := c.def_ 2 (d := d__law_of) rfl
  have p__law_of := He.glo_ok X Gm (c.fact 2 (f := .glo "_law_of") rfl)
  obtain ⟨fd__law_odd, F__law_odd⟩ := c.def_ 3 (d := d__law_odd) rfl
  have p__law_odd := He.glo_ok X Gm (c.fact 3 (f := .glo "_law_odd") rfl)
  obtain ⟨fd__law_whole, F__law_whole⟩ := c.def_ 4 (d := d__law_whole) rfl
  have p__law_whole := He.glo_ok X Gm (c.fact 4 (f := .glo "_law_whole") rfl)
  obtain ⟨fd__law_same, F__law_same⟩ := c.def_ 5 (d := d__law_same) rfl
  have p__law_same := He.glo_ok X Gm (c.fact 5 (f := .glo "_law_same") rfl)
  obtain ⟨fd_is_number, F_is_number⟩ := c.def_ 6 (d := d_is_number) rfl
  have p_is_number := He.glo_ok X Gm (c.fact 6 (f := .glo "is_number") rfl)
  obtain ⟨fd__law_numbers, F__law_numbers⟩ := c.def_ 7 (d := d__law_numbers) rfl
  have p__law_numbers := He.glo_ok X Gm (c.fact 7 (f := .glo "_law_numbers") rfl)
  obtain ⟨fd_nth_mark, F_nth_mark⟩ := c.def_ 8 (d := d_nth_mark) rfl
  have p_nth_mark := He.glo_ok X Gm (c.fact 8 (f := .glo "nth_mark") rfl)
  obtain ⟨fd__law_mark, F__law_mark⟩ := c.def_ 9 (d := d__law_mark) rfl
  have p__law_mark := He.glo_ok X Gm (c.fact 9 (f := .glo "_law_mark") rfl)
  obtain ⟨fd__law_marked, F__law_marked⟩ := c.def_ 10 (d := d__law_marked) rfl
  have p__law_marked := He.glo_ok X Gm (c.fact 10 (f := .glo "_law_marked") rfl)
  obtain ⟨fd_is_spelled, F_is_spelled⟩ := c.def_ 11 (d := d_is_spelled) rfl
  have p_is_spelled := He.glo_ok X Gm (c.fact 11 (f := .glo "is_spelled") rfl)
  obtain ⟨fd_is_name, F_is_name⟩ := c.def_ 12 (d := d_is_name) rfl
  have p_is_name := He.glo_ok X Gm (c.fact 12 (f := .glo "is_name") rfl)
  obtain ⟨fd_is_long_word, F_is_long_word⟩ := c.def_ 13 (d := d_is_long_word) rfl
  have p_is_long_word := He.glo_ok X Gm (c.fact 13 (f := .glo "is_long_word") rfl)
  obtain ⟨fd_is_names, F_is_names⟩ := c.def_ 14 (d := d_is_names) rfl
  have p_is_names := He.glo_ok X Gm (c.fact 14 (f := .glo "is_names") rfl)
  obtain ⟨fd_is_group, F_is_group⟩ := c.def_ 15 (d := d_is_group) rfl
  have p_is_group := He.glo_ok X Gm (c.fact 15 (f := .glo "is_group") rfl)
  obtain ⟨fd__law_letters, F__law_letters⟩ := c.def_ 16 (d := d__law_letters) rfl
  have p__law_letters := He.glo_ok X Gm (c.fact 16 (f := .glo "_law_letters") rfl)
  obtain ⟨fd__law_group_so, F__law_group_so⟩ := c.def_ 17 (d := d__law_group_so) rfl
  have p__law_group_so := He.glo_ok X Gm (c.fact 17 (f := .glo "_law_group_so") rfl)
  obtain ⟨fd__law_judged, F__law_judged⟩ := c.def_ 18 (d := d__law_judged) rfl
  have p__law_judged := He.glo_ok X Gm (c.fact 18 (f := .glo "_law_judged") rfl)
  obtain ⟨fd__law_string, F__law_string⟩ := c.def_ 19 (d := d__law_string) rfl
  have p__law_string := He.glo_ok X Gm (c.fact 19 (f := .glo "_law_string") rfl)
  obtain ⟨fd__law_names, F__law_names⟩ := c.def_ 20 (d := d__law_names) rfl
  have p__law_names := He.glo_ok X Gm (c.fact 20 (f := .glo "_law_names") rfl)
  obtain ⟨fd__law_mixed, F__law_mixed⟩ := c.def_ 21 (d := d__law_mixed) rfl
  have p__law_mixed := He.glo_ok X Gm (c.fact 21 (f := .glo "_law_mixed") rfl)
  obtain ⟨fd__law_things, F__law_things⟩ := c.def_ 22 (d := d__law_things) rfl
  have p__law_things := He.glo_ok X Gm (c.fact 22 (f := .glo "_law_things") rfl)
  obtain ⟨fd_law, F_law⟩ := c.def_ 23 (d := d_law) rfl
  have p_law := He.glo_ok X Gm (c.fact 23 (f := .glo "law") rfl)
  have g_int := He.free_ok X Gm (c.fact 24 (f := .free "int") rfl)
  have g_list := He.free_ok X Gm (c.fact 25 (f := .free "list") rfl)
  have g_abs := He.free_ok X Gm (c.fact 26 (f := .free "abs") rfl)
  have g_len := He.free_ok X Gm (c.fact 27 (f := .free "len") rfl)
  have g_bool := He.free_ok X Gm (c.fact 28 (f := .free "bool") rfl)
  have g_isinstance := He.free_ok X Gm (c.fact 29 (f := .free "isinstance") rfl)
  have g_all := He.free_ok X Gm (c.fact 30 (f := .free "all") rfl)
  have g_str := He.free_ok X Gm (c.fact 31 (f := .free "str") rfl)
  have g_tuple := He.free_ok X Gm (c.fact 32 (f := .free "tuple") rfl)
  have g_zip := He.free_ok X Gm (c.fact 33 (f := .free "zip") rfl)
  have g_max := He.free_ok X Gm (c.fact 34 (f := .free "max") rfl)
  have g_divmod := He.free_ok X Gm (c.fact 35 (f := .free "divmod") rfl)
  have g_range := He.free_ok X Gm (c.fact 36 (f := .free "range") rfl)
  have g_set := He.free_ok X Gm (c.fact 37 (f := .free "set") rfl)
  have g_sorted := He.free_ok X Gm (c.fact 38 (f := .free "sorted") rfl)
  have g_LETTERS := He.str_ok X Gm (c.fact 39 (f := .str "LETTERS" "abcdefghijklmnopqrstuvwxyz") rfl)
  have g_NAME_LENGTH := He.int_ok X Gm (c.fact 40 (f := .int "NAME_LENGTH" 6) rfl)
  have g_LONG_LENGTH := He.int_ok X Gm (c.fact 41 (f := .int "LONG_LENGTH" 12) rfl)
  have e := hfa.symm.trans p_law
  cases e
  have b := FunD.bindsA (ps := ["_law_script"]) F_law fun _ _ _ _ _ _ us hl => match us, hl with | [_], _ => rfl
  refine ⟨fd_law, fun s v => b s [v] rfl, fun base _ _ => ?_⟩
  have h__law_bag : Fn P w mg base (gp K) 1 "_law_bag" (KW.top 12) ["_law_script"] KW.f__law_bag := KW.ok__law_bag (k := 0) p__law_bag F__law_bag g_int g_list
  have h__law_draw : Fn P w mg base (gp K) 1 "_law_draw" (KW.top 13) ["_law_bag_here", "_law_sides"] KW.f__law_draw := KW.ok__law_draw (k := 0) p__law_draw F__law_draw g_abs g_int g_len
  have h__law_of : Fn P w mg base (gp K) 2 "_law_of" (KW.top 14) ["_law_bag_here", "_law_things_here"] KW.f__law_of := KW.ok__law_of (k := 1) p__law_of F__law_of g_len (h__law_draw.mono (by decide))
  have h__law_odd : Fn P w mg base (gp K) 3 "_law_odd" (KW.top 17) ["_law_bag_here", "_law_more"] KW.f__law_odd := KW.ok__law_odd (k := 2) p__law_odd F__law_odd (h__law_of.mono (by decide))
  have h__law_whole : Fn P w mg base (gp K) 1 "_law_whole" (KW.top 20) ["_law_thing"] KW.f__law_whole := KW.ok__law_whole (k := 0) p__law_whole F__law_whole g_bool g_int g_isinstance
  have hh__law_same : ∀ j, Fn P w mg base (gp K) (0 + j) "_law_same" (KW.top 16) ["_law_found", "_law_due"] (KW.f__law_same j) := fun j => by
    induction j with
    | zero => exact fn_bad p__law_same F__law_same (fun _ _ _ _ _ _ us hl => match us, hl with | [_, _], _ => rfl)
    | succ j ih => exact KW.ok__law_same (k := 0 + j) p__law_same F__law_same g_all g_bool g_int g_isinstance g_len g_list g_str g_tuple g_zip ih
  have h__law_same := hh__law_same 6
  have h_is_number : Fn P w mg base (gp K) 1 "is_number" (KW.top 7) ["value", "least", "most"] KW.f_is_number := KW.ok_is_number (k := 0) p_is_number F_is_number g_bool g_int g_isinstance
  have h__law_numbers : Fn P w mg base (gp K) 7 "_law_numbers" (KW.top 26) ["_law_bag_here"] KW.f__law_numbers := KW.ok__law_numbers (k := 6) p__law_numbers F__law_numbers g_max g_str (h__law_draw.mono (by decide)) (h__law_odd.mono (by decide)) (h__law_of.mono (by decide)) (h__law_same.mono (by decide)) (h__law_whole.mono (by decide)) (h_is_number.mono (by decide))
  have h_nth_mark : Fn P w mg base (gp K) 1 "nth_mark" (KW.top 10) ["index"] KW.f_nth_mark := KW.ok_nth_mark (k := 0) p_nth_mark F_nth_mark g_divmod g_len g_LETTERS
  have h__law_mark : Fn P w mg base (gp K) 1 "_law_mark" (KW.top 21) ["_law_index_y"] KW.f__law_mark := KW.ok__law_mark (k := 0) p__law_mark F__law_mark g_int g_range
  have h__law_marked : Fn P w mg base (gp K) 7 "_law_marked" (KW.top 27) ["_law_bag_here"] KW.f__law_marked := KW.ok__law_marked (k := 6) p__law_marked F__law_marked (h__law_draw.mono (by decide)) (h__law_mark.mono (by decide)) (h__law_of.mono (by decide)) (h__law_same.mono (by decide)) (h_nth_mark.mono (by decide))
  have h_is_spelled : Fn P w mg base (gp K) 1 "is_spelled" (KW.top 4) ["value", "most"] KW.f_is_spelled := KW.ok_is_spelled (k := 0) p_is_spelled F_is_spelled g_all g_isinstance g_len g_str g_LETTERS
  have h_is_name : Fn P w mg base (gp K) 2 "is_name" (KW.top 5) ["value"] KW.f_is_name := KW.ok_is_name (k := 1) p_is_name F_is_name g_NAME_LENGTH (h_is_spelled.mono (by decide))
  have h_is_long_word : Fn P w mg base (gp K) 2 "is_long_word" (KW.top 6) ["value"] KW.f_is_long_word := KW.ok_is_long_word (k := 1) p_is_long_word F_is_long_word g_LONG_LENGTH (h_is_spelled.mono (by decide))
  have h_is_names : Fn P w mg base (gp K) 3 "is_names" (KW.top 8) ["value"] KW.f_is_names := KW.ok_is_names (k := 2) p_is_names F_is_names g_all g_isinstance g_len g_list g_set g_tuple (h_is_name.mono (by decide))
  have h_is_group : Fn P w mg base (gp K) 4 "is_group" (KW.top 9) ["value"] KW.f_is_group := KW.ok_is_group (k := 3) p_is_group F_is_group g_isinstance g_list g_sorted g_tuple (h_is_names.mono (by decide))
  have h__law_letters : Fn P w mg base (gp K) 1 "_law_letters" (KW.top 19) ["_law_thing", "_law_most"] KW.f__law_letters := KW.ok__law_letters (k := 0) p__law_letters F__law_letters g_isinstance g_len g_str
  have h__law_group_so : Fn P w mg base (gp K) 2 "_law_group_so" (KW.top 22) ["_law_thing"] KW.f__law_group_so := KW.ok__law_group_so (k := 1) p__law_group_so F__law_group_so g_isinstance g_len g_range g_tuple (h__law_letters.mono (by decide))
  have h__law_judged : Fn P w mg base (gp K) 7 "_law_judged" (KW.top 25) ["_law_thing"] KW.f__law_judged := KW.ok__law_judged (k := 6) p__law_judged F__law_judged (h__law_group_so.mono (by decide)) (h__law_letters.mono (by decide)) (h__law_same.mono (by decide)) (h_is_group.mono (by decide)) (h_is_long_word.mono (by decide)) (h_is_name.mono (by decide))
  have h__law_string : Fn P w mg base (gp K) 3 "_law_string" (KW.top 23) ["_law_bag_here"] KW.f__law_string := KW.ok__law_string (k := 2) p__law_string F__law_string g_range (h__law_draw.mono (by decide)) (h__law_of.mono (by decide))
  have h__law_names : Fn P w mg base (gp K) 3 "_law_names" (KW.top 18) ["_law_bag_here", "_law_many"] KW.f__law_names := KW.ok__law_names (k := 2) p__law_names F__law_names g_range (h__law_draw.mono (by decide)) (h__law_of.mono (by decide))
  have h__law_mixed : Fn P w mg base (gp K) 2 "_law_mixed" (KW.top 15) ["_law_bag_here", "_law_things_here"] KW.f__law_mixed := KW.ok__law_mixed (k := 1) p__law_mixed F__law_mixed g_len g_list g_range (h__law_draw.mono (by decide))
  have h__law_things : Fn P w mg base (gp K) 4 "_law_things" (KW.top 24) ["_law_bag_here"] KW.f__law_things := KW.ok__law_things (k := 3) p__law_things F__law_things g_len g_max g_sorted g_tuple (h__law_draw.mono (by decide)) (h__law_mixed.mono (by decide)) (h__law_names.mono (by decide)) (h__law_odd.mono (by decide)) (h__law_of.mono (by decide)) (h__law_string.mono (by decide))
  have h_law : Fn P w mg base (gp K) 8 "law" (KW.top 28) ["_law_script"] KW.f_law := KW.ok_law (k := 7) p_law F_law g_range (h__law_bag.mono (by decide)) (h__law_judged.mono (by decide)) (h__law_marked.mono (by decide)) (h__law_numbers.mono (by decide)) (h__law_odd.mono (by decide)) (h__law_string.mono (by decide)) (h__law_things.mono (by decide))
  obtain ⟨a2, fd2, g2, F2, _, ok⟩ := h_law.ex
  have e2 := g2.symm.trans p_law
  cases e2
  have e3 := FunD_uniq F_law F2
  subst e3
  exact ok
end KF
open PySem PySem.W PySem.Calls PyProof.Rows
theorem PySem.Challenge.cw_firstdecides_k01_words_and_marks_holds : PySem.Challenge.rw_firstdecides_k01_words_and_marks.Holds := by
  w_on; o_law
  refine HandSHeadRun.head_any (r := OpenLaw.row PySem.Challenge.rw_firstdecides_k01_words_and_marks) (q := view (OpenLaw.row PySem.Challenge.rw_firstdecides_k01_words_and_marks).prog [28]) (H := KF.hk) (ob := KF.ob) (M := 20000) (loose := KF.names) (d := HandSHeadRun.topDef (OpenLaw.row PySem.Challenge.rw_firstdecides_k01_words_and_marks).prog 28) (kwd := []) KF.ob_eq
    (by kernel_rfl) (fun s => by kernel_rfl) KF.run (by kernel_rfl) (by kernel_rfl) (by kernel_rfl) (by rfl) (by first | assumption | decide +kernel) (by decide +kernel) ⟨rfl, rfl, rfl, rfl, rfl, by decide +kernel⟩ ?hw ?hc
  case hw => w_witness2
  case hc =>
    refine L2.walk_ofE (l := PySem.Challenge.rw_firstdecides_k01_words_and_marks) (n := 63) (k := 8) (x := "_law_script") (CX := L2.CX0) rfl (by decide) (by kernel_rfl) ⟨rfl, by decide, by decide⟩ ?F (fun _ _ _ _ z => z)
    intro w mg fa h Y G hmg0
    obtain ⟨K, KX, c⟩ := Y
    have hmg : mg ("law" : PySem.Str) = some (.ref fa) := by
      have e : (HandSHeadRun.topDef (OpenLaw.row PySem.Challenge.rw_firstdecides_k01_words_and_marks).prog 28).name = ("law" : PySem.Str) := by kernel_rfl
      rw [← e]
      exact hmg0
    obtain ⟨fd, hb, hF⟩ := KF.facts (P := (PySem.Challenge.rw_firstdecides_k01_words_and_marks).prog) (w := w) KX G hmg c
    exact ⟨K, fd, EV.spEv (KF.gp K) 1 KW.f_law, KX, hb, fun H a ns hl _ hS => KF.law_sp hl hS, hF⟩
