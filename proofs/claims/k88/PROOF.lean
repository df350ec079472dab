import PyProof.Rows.All
import Wide.All
import OpenK.AllK
import Wide.FinOn
import PyProof.EqAt
import PyProof.EqKinds
import PyProof.TupleCall
import HandS.ForMost
import HandS.ForExc
import HandS.CallRecv
import HandS.TupAny
import HandS.TupMul
import HandS.Deep
import HandS.IsInst
import HandS.StrMore
import HandS.Replace
import HandS.ExcInit
import HandS.ExcIs
import HandS.TryMany
import KE.KExcIs
import HandS.ExcField
import KE.KIndexOf
import HandS.Conv
import HandS.SortInts
import HandS.SortOrd
import PyProof.TupleOfSeq
import HandS.Style
import KE.GoesEnum
import PySem.Challenge.RW_foldedways_k88_whole_commands_of_workspa
set_option Elab.async false
set_option linter.all false
set_option maxRecDepth 100000
set_option maxHeartbeats 1000000
/-! DV0: values without addresses (D), owned things (Fd, O), how they stand in an abstract heap, mirrors as programs over them (M). -/
namespace DV
open PySem L2

/-- a value with all that it holds -/
inductive D where
  | non | bl (b : Bool) | int (i : Int) | str (s : List Nat)
  | lst (xs : List D) | tup (xs : List D) | dic (kvs : Bool × List (D × D))
  /-- a tuple that the module wrote; the law's script -/
  | wtup (xs : List D) | scr (ns : List Int)
  deriving Inhabited

/-- a field or a local name: a frozen value, or a list or a dict that is ours alone -/
inductive Fd where
  | fz (d : D) | lst (xs : List D) | dic (kvs : Bool × List (D × D))
  deriving Inhabited
/-- what a name holds -/
inductive O where
  | f (x : Fd) | ins (c : Nat) (fs : List Fd)
  deriving Inhabited
abbrev Env := List (Option O)
/-- an exception: its class by number, its fields -/
structure Exn where
  c : Nat
  fs : List D

def D.key : D → Option Key
  | .int i => some (.inl i)
  | .str s => some (.inr ⟨s.toArray⟩)
  | _ => none
def keysOf : List D → Option (List Key)
  | [] => some []
  | d :: r => match d.key, keysOf r with
    | some k, some ks => some (k :: ks)
    | _, _ => none
def D.keyT : D → Option (List Key)
  | .tup xs => keysOf xs
  | _ => none

/-! ### the result of running a mirror -/
inductive Res (α : Type) where
  | fail
  | ok (a : α) (e : Env)
  | exc (x : Exn) (e : Env)
abbrev M (α : Type) := Env → Res α
def ret {α : Type} (a : α) : M α := fun e => .ok a e
def failM {α : Type} : M α := fun _ => .fail
def bnd {α β : Type} (m : M α) (k : α → M β) : M β := fun e => match m e with
  | .fail => .fail
  | .ok a e' => k a e'
  | .exc x e' => .exc x e'
def lift {α : Type} : Option α → M α
  | some a => ret a
  | none => failM
@[simp] theorem bnd_ok {α β : Type} {m : M α} {k : α → M β} {e e' : Env} {a : α} (h : m e = .ok a e') : bnd m k e = k a e' := by simp [bnd, h]
@[simp] theorem bnd_ret {α β : Type} {k : α → M β} {a : α} : bnd (ret a) k = k a := rfl
/-- what an expression gives -/
inductive R where
  | d (x : D) | lst (xs : List D) | dic (kvs : Bool × List (D × D)) | ins (c : Nat) (fs : List Fd) | at (i : Nat) | fld (i j : Nat)
/-- what an operand is, when the operation comes -/
inductive Op where
  | d (x : D) | at (i : Nat) | fld (i j : Nat)
inductive Fl where
  | nx | bk | ct | rt (o : O)

/-! ### what stands where -/
structure Cfg where
  K : PySem.W.Frag
  cA : Nat → Addr
  lay : Nat → List Str
/-- a tuple that is known to have no dict: the module's own, or one made here -/
def TupW (K : PySem.W.Frag) (B : Hp) (p : Addr) (vs : List V) : Prop :=
  (∃ (o : Obj) (its : Array Value) (n : Nat), K.lookup p = some o ∧ o.cls = .type "tuple" ∧ o.dict = none ∧ o.data = .seq its n ∧ its.size ≤ sizeLine ∧ Vals vs its.toList) ∨ ∃ o : Obj, B p = some (.frz o (.tup vs)) ∧ o.dict = none
theorem TupW.mono {K : PySem.W.Frag} {B B' : Hp} {p : Addr} {vs : List V} (e : ∀ a o, B a = some o → B' a = some o) (h : TupW K B p vs) : TupW K B' p vs := h.imp_right fun ⟨o, h1, h2⟩ => ⟨o, e _ _ h1, h2⟩
theorem TupW.seq {K : PySem.W.Frag} {B : Hp} {p : Addr} {vs : List V} (h : TupW K B p vs) : SqT K B p vs := by
  rcases h with ⟨o, its, n, h1, h2, _, h3, h4, h5⟩ | ⟨o, h1, _⟩
  · exact .inr ⟨o, its, n, h1, h2, h3, h4, h5⟩
  · exact .inl (.inr ⟨o, h1⟩)
variable (G : Cfg)

mutual
inductive Fr (B : Hp) : V → D → Prop
  | non : Fr B .non .non
  | bl (b : Bool) : Fr B (.bl b) (.bl b)
  | int (i : Int) : Fr B (.int i) (.int i)
  | str (s : List Nat) : Fr B (.str ⟨s.toArray⟩) (.str s)
  | lst {p : Addr} {vs : List V} {ds : List D} : B p = some (.lst vs) → FrL B vs ds → Fr B (.ref p) (.lst ds)
  | tup {p : Addr} {vs : List V} {ds : List D} : B p = some (.tup vs) → FrL B vs ds → Fr B (.ref p) (.tup ds)
  | dK {p : Addr} {kvs : List (Key × V)} {ds : List (D × D)} : B p = some (.dK kvs) → FrK B kvs ds → Fr B (.ref p) (.dic (false, ds))
  | dT {p : Addr} {kvs : List (List Key × V)} {ds : List (D × D)} : B p = some (.dT kvs) → FrT B kvs ds → Fr B (.ref p) (.dic (true, ds))
  | wtup {p : Addr} {vs : List V} {ds : List D} : TupW G.K B p vs → FrL B vs ds → Fr B (.ref p) (.wtup ds)
  | scr {p : Addr} {ns : List Int} : SqL G.K B p (ns.map V.int) → Fr B (.ref p) (.scr ns)
inductive FrL (B : Hp) : List V → List D → Prop
  | nil : FrL B [] []
  | cons {v : V} {d : D} {vs : List V} {ds : List D} : Fr B v d → FrL B vs ds → FrL B (v :: vs) (d :: ds)
inductive FrK (B : Hp) : List (Key × V) → List (D × D) → Prop
  | nil : FrK B [] []
  | cons {k : Key} {v : V} {kd d : D} {r : List (Key × V)} {ds : List (D × D)} : kd.key = some k → Fr B v d → FrK B r ds → FrK B ((k, v) :: r) ((kd, d) :: ds)
inductive FrT (B : Hp) : List (List Key × V) → List (D × D) → Prop
  | nil : FrT B [] []
  | cons {k : List Key} {v : V} {kd d : D} {r : List (List Key × V)} {ds : List (D × D)} : kd.keyT = some k → Fr B v d → FrT B r ds → FrT B ((k, v) :: r) ((kd, d) :: ds)
end
def Ex (H H' : Hp) : Prop := ∀ a o, H a = some o → H' a = some o
theorem Ex.refl (H : Hp) : Ex H H := fun _ _ h => h
theorem Ex.trans {H H1 H2 : Hp} (a : Ex H H1) (b : Ex H1 H2) : Ex H H2 := fun x o h => b x o (a x o h)
theorem Ex.new {H : Hp} {p : Addr} {o : HO} (h : H p = none) : Ex H (upd H p o) := fun a u e => by
  rw [upd_ne (ne_of_none e h)]
  exact e
theorem Ex.rd {H H' : Hp} {a : Addr} {u : HO} (e : Ex H H') (h : Rd H a u) : Rd H' a u := by
  rcases h with h | ⟨o, h⟩
  · exact Or.inl (e a _ h)
  · exact Or.inr ⟨o, e a _ h⟩
theorem Ex.l {K : PySem.W.Frag} {H H' : Hp} {a : Addr} {xs : List V} (e : Ex H H') (h : SqL K H a xs) : SqL K H' a xs := by
  rcases h with h | h
  · exact Or.inl (e.rd h)
  · exact Or.inr h
theorem Ex.back {H H' : Hp} {p : Addr} (e : Ex H H') (h : H' p = none) : H p = none := by
  cases h1 : H p with
  | none => rfl
  | some o =>
    rw [e p o h1] at h
    cases h
variable {G}
mutual
theorem Fr.mono {B B' : Hp} (e : Ex B B') : ∀ {v : V} {d : D}, Fr G B v d → Fr G B' v d
  | _, _, .non => .non
  | _, _, .bl b => .bl b
  | _, _, .int i => .int i
  | _, _, .str s => .str s
  | _, _, .lst h l => .lst (e _ _ h) (FrL.mono e l)
  | _, _, .tup h l => .tup (e _ _ h) (FrL.mono e l)
  | _, _, .dK h l => .dK (e _ _ h) (FrK.mono e l)
  | _, _, .dT h l => .dT (e _ _ h) (FrT.mono e l)
  | _, _, .wtup h l => .wtup (h.mono e) (FrL.mono e l)
  | _, _, .scr h => .scr (e.l h)
theorem FrL.mono {B B' : Hp} (e : Ex B B') : ∀ {v : List V} {d : List D}, FrL G B v d → FrL G B' v d
  | _, _, .nil => .nil
  | _, _, .cons h l => .cons (Fr.mono e h) (FrL.mono e l)
theorem FrK.mono {B B' : Hp} (e : Ex B B') : ∀ {v : List (Key × V)} {d : List (D × D)}, FrK G B v d → FrK G B' v d
  | _, _, .nil => .nil
  | _, _, .cons k h l => .cons k (Fr.mono e h) (FrK.mono e l)
theorem FrT.mono {B B' : Hp} (e : Ex B B') : ∀ {v : List (List Key × V)} {d : List (D × D)}, FrT G B v d → FrT G B' v d
  | _, _, .nil => .nil
  | _, _, .cons k h l => .cons k (Fr.mono e h) (FrT.mono e l)
end
theorem FrL.length {B : Hp} : ∀ {vs : List V} {ds : List D}, FrL G B vs ds → vs.length = ds.length
  | _, _, .nil => rfl
  | _, _, .cons _ l => by simp [l.length]
theorem FrL.get {B : Hp} : ∀ {vs : List V} {ds : List D} {i : Nat} {d : D}, FrL G B vs ds → ds[i]? = some d → ∃ v, vs[i]? = some v ∧ Fr G B v d
  | _, _, _, _, .nil, e => by simp at e
  | _, _, 0, _, .cons h _, e => by simp at e; subst e; exact ⟨_, rfl, h⟩
  | _, _, i + 1, _, .cons _ l, e => by
    obtain ⟨v, h1, h2⟩ := FrL.get (i := i) l (by simpa using e)
    exact ⟨v, by simpa using h1, h2⟩
theorem FrL.getV {B : Hp} : ∀ {vs : List V} {ds : List D} {i : Nat} {v : V}, FrL G B vs ds → vs[i]? = some v → ∃ d, ds[i]? = some d ∧ Fr G B v d
  | _, _, _, _, .nil, e => by simp at e
  | _, _, 0, _, .cons h _, e => by simp at e; subst e; exact ⟨_, rfl, h⟩
  | _, _, i + 1, _, .cons _ l, e => by
    obtain ⟨v, h1, h2⟩ := FrL.getV (i := i) l (by simpa using e)
    exact ⟨v, by simpa using h1, h2⟩
theorem FrL.append {B : Hp} : ∀ {vs ws : List V} {ds es : List D}, FrL G B vs ds → FrL G B ws es → FrL G B (vs ++ ws) (ds ++ es)
  | _, _, _, _, .nil, s => s
  | _, _, _, _, .cons h l, s => .cons h (FrL.append l s)
theorem FrL.take {B : Hp} : ∀ {vs : List V} {ds : List D} (n : Nat), FrL G B vs ds → FrL G B (vs.take n) (ds.take n)
  | _, _, 0, _ => .nil
  | _, _, _ + 1, .nil => .nil
  | _, _, n + 1, .cons h l => .cons h (FrL.take n l)
theorem FrL.drop {B : Hp} : ∀ {vs : List V} {ds : List D} (n : Nat), FrL G B vs ds → FrL G B (vs.drop n) (ds.drop n)
  | _, _, 0, h => h
  | _, _, _ + 1, .nil => .nil
  | _, _, n + 1, .cons _ l => FrL.drop n l
theorem FrL.set {B : Hp} {v : V} {d : D} (h : Fr G B v d) : ∀ {vs : List V} {ds : List D} (i : Nat), FrL G B vs ds → FrL G B (vs.set i v) (ds.set i d)
  | _, _, _, .nil => .nil
  | _, _, 0, .cons _ l => .cons h l
  | _, _, i + 1, .cons q l => .cons q (FrL.set h i l)
theorem FrL.dropLast {B : Hp} {vs : List V} {ds : List D} (h : FrL G B vs ds) : FrL G B vs.dropLast ds.dropLast := by
  rw [List.dropLast_eq_take, List.dropLast_eq_take, h.length]
  exact h.take _
theorem FrL.eraseIdx {B : Hp} : ∀ {vs : List V} {ds : List D} (i : Nat), FrL G B vs ds → FrL G B (vs.eraseIdx i) (ds.eraseIdx i)
  | _, _, _, .nil => .nil
  | _, _, 0, .cons _ l => l
  | _, _, i + 1, .cons q l => .cons q (FrL.eraseIdx i l)
theorem FrL.reverse {B : Hp} : ∀ {vs : List V} {ds : List D}, FrL G B vs ds → FrL G B vs.reverse ds.reverse
  | _, _, .nil => .nil
  | _, _, .cons h l => by simp only [List.reverse_cons]; exact (FrL.reverse l).append (.cons h .nil)
theorem FrK.length {B : Hp} : ∀ {vs : List (Key × V)} {ds : List (D × D)}, FrK G B vs ds → vs.length = ds.length
  | _, _, .nil => rfl
  | _, _, .cons _ _ l => by simp [l.length]
theorem FrT.length {B : Hp} : ∀ {vs : List (List Key × V)} {ds : List (D × D)}, FrT G B vs ds → vs.length = ds.length
  | _, _, .nil => rfl
  | _, _, .cons _ _ l => by simp [l.length]

/-! ### owned things and their addresses -/
abbrev SA := List (Option Addr)
abbrev SS := List SA
def fl (ss : SS) : List Addr := ss.flatten.filterMap id
theorem fl_nil : fl [] = [] := rfl
theorem fl_cons (s : SA) (ss : SS) : fl (s :: ss) = s.filterMap id ++ fl ss := by simp [fl]
theorem fl_append (a b : SS) : fl (a ++ b) = fl a ++ fl b := by simp [fl]
theorem mem_fl {ss : SS} {a : Addr} : a ∈ fl ss ↔ ∃ s ∈ ss, some a ∈ s := by
  simp only [fl, List.mem_filterMap, List.mem_flatten, id_eq]
  constructor
  · rintro ⟨x, ⟨s, h1, h2⟩, rfl⟩; exact ⟨s, h1, h2⟩
  · rintro ⟨s, h1, h2⟩; exact ⟨_, ⟨s, h1, h2⟩, rfl⟩

variable (G)
def FdOk (B H : Hp) : V → Fd → Option Addr → Prop
  | v, .fz d, none => Fr G B v d
  | v, .lst ds, some p => v = .ref p ∧ B p = none ∧ ∃ vs, H p = some (.lst vs) ∧ FrL G B vs ds
  | v, .dic ds, some p => v = .ref p ∧ B p = none ∧ ((∃ kvs l, ds = (false, l) ∧ H p = some (.dK kvs) ∧ FrK G B kvs l) ∨ ∃ kvs l, ds = (true, l) ∧ H p = some (.dT kvs) ∧ FrT G B kvs l)
  | _, _, _ => False
inductive FdsOk (B H : Hp) : List V → List Fd → SA → Prop
  | nil : FdsOk B H [] [] []
  | cons {v : V} {x : Fd} {a : Option Addr} {vs : List V} {xs : List Fd} {as : SA} : FdOk G B H v x a → FdsOk B H vs xs as → FdsOk B H (v :: vs) (x :: xs) (a :: as)
def OOk (B H : Hp) : V → O → SA → Prop
  | v, .f x, s => ∃ a, s = [a] ∧ FdOk G B H v x a
  | v, .ins c fs, s => ∃ p qs dx vs, s = some p :: qs ∧ v = .ref p ∧ B p = none ∧ H p = some (.ins (G.cA c) dx ((G.lay c).zip vs)) ∧ vs.length ≤ (G.lay c).length ∧ FdsOk G B H vs fs qs
def SlOk (B H : Hp) : Option V → Option O → SA → Prop
  | _, none, s => s = []
  | some v, some o, s => OOk G B H v o s
  | none, some _, _ => False
inductive SlsOk (B H : Hp) : St → Env → SS → Prop
  | nil : SlsOk B H [] [] []
  | cons {v : Option V} {x : Option O} {a : SA} {vs : St} {xs : Env} {as : SS} : SlOk G B H v x a → SlsOk B H vs xs as → SlsOk B H (v :: vs) (x :: xs) (a :: as)
structure SR (B : Hp) (σ : St) (H : Hp) (env : Env) (ss : SS) : Prop where
  ex : Ex B H
  sl : SlsOk G B H σ env ss
  nd : (fl ss).Nodup
variable {G}

/-- from one state to a later one: what stays -/
structure Step (B H : Hp) (ss : SS) (B' H' : Hp) (ss' : SS) : Prop where
  eb : Ex B B'
  fr : ∀ a o, H a = some o → a ∉ fl ss → H' a = some o
  bn : ∀ a o, H a = some o → B a = none → a ∉ fl ss → B' a = none
  nw : ∀ a ∈ fl ss', a ∈ fl ss ∨ H a = none
  kp : ∀ a, H a ≠ none → H' a ≠ none
def KpS (s s' : SA) : Prop := s.length ≤ s'.length ∧ ∀ j p, j < s.length → s'[j]? = some (some p) → s[j]? = some (some p)
theorem KpS.refl (s : SA) : KpS s s := ⟨Nat.le_refl _, fun _ _ _ h => h⟩
theorem KpS.trans {a b c : SA} (h : KpS a b) (k : KpS b c) : KpS a c :=
  ⟨Nat.le_trans h.1 k.1, fun j p hj e => h.2 j p hj (k.2 j p (Nat.lt_of_lt_of_le hj h.1) e)⟩
/-- the slots at which P holds keep their addresses -/
def Kp (P : Nat → Prop) (ss ss' : SS) : Prop := ∀ i, P i → ∀ s, ss[i]? = some s → ∃ s', ss'[i]? = some s' ∧ KpS s s'
theorem Kp.refl (P : Nat → Prop) (ss : SS) : Kp P ss ss := fun _ _ s h => ⟨s, h, KpS.refl s⟩
theorem Kp.trans {P : Nat → Prop} {a b c : SS} (h : Kp P a b) (k : Kp P b c) : Kp P a c := fun i hi s e => by
  obtain ⟨s', e', k1⟩ := h i hi s e
  obtain ⟨s'', e'', k2⟩ := k i hi s' e'
  exact ⟨s'', e'', k1.trans k2⟩
theorem Kp.weak {P P' : Nat → Prop} {a b : SS} (h : Kp P a b) (w : ∀ i, P' i → P i) : Kp P' a b := fun i hi => h i (w i hi)
theorem Step.refl (B H : Hp) (ss : SS) : Step B H ss B H ss := ⟨Ex.refl _, fun _ _ h _ => h, fun _ _ _ h _ => h, fun _ h => .inl h, fun _ h => h⟩
theorem Step.trans {B H B1 H1 B2 H2 : Hp} {ss ss1 ss2 : SS} (a : Step B H ss B1 H1 ss1) (b : Step B1 H1 ss1 B2 H2 ss2) : Step B H ss B2 H2 ss2 := by
  have out : ∀ x o, H x = some o → x ∉ fl ss → x ∉ fl ss1 := fun x o h n z => by
    rcases a.nw x z with q | q
    · exact n q
    · rw [h] at q; cases q
  refine ⟨a.eb.trans b.eb, fun x o h n => b.fr x o (a.fr x o h n) (out x o h n), fun x o h hb n => b.bn x o (a.fr x o h n) (a.bn x o h hb n) (out x o h n), fun x h => ?_, fun x h => b.kp x (a.kp x h)⟩
  rcases b.nw x h with q | q
  · exact a.nw x q
  · right
    cases e : H x with
    | none => rfl
    | some o => exact absurd q (a.kp x (by rw [e]; simp))

theorem Step.fresh {B H B1 H1 : Hp} {ss ss1 : SS} (st : Step B H ss B1 H1 ss1) {a : Addr} (h : H1 a = none ∨ a ∈ fl ss1) : H a = none ∨ a ∈ fl ss := by
  rcases h with h | h
  · left
    cases e : H a with
    | none => rfl
    | some o => exact absurd h (st.kp a (by rw [e]; simp))
  · exact (st.nw a h).symm

/-! ### lookups -/
theorem SlsOk.get {B H : Hp} : ∀ {σ : St} {env : Env} {ss : SS} {i : Nat} {o : O}, SlsOk G B H σ env ss → env[i]? = some (some o) → ∃ v s, σ[i]? = some (some v) ∧ ss[i]? = some s ∧ OOk G B H v o s
  | _, _, _, _, _, .nil, e => by simp at e
  | _, _, _, 0, o, .cons (v := v) h _, e => by
    simp at e; subst e
    cases v with
    | none => exact h.elim
    | some v => exact ⟨v, _, rfl, rfl, h⟩
  | _, _, _, i + 1, o, .cons _ l, e => by
    obtain ⟨v, s, h1, h2, h3⟩ := SlsOk.get (i := i) l (by simpa using e)
    exact ⟨v, s, by simpa using h1, by simpa using h2, h3⟩
theorem SlsOk.len {B H : Hp} : ∀ {σ : St} {env : Env} {ss : SS}, SlsOk G B H σ env ss → σ.length = env.length ∧ ss.length = env.length
  | _, _, _, .nil => ⟨rfl, rfl⟩
  | _, _, _, .cons _ l => by simp [l.len.1, l.len.2]

/-! ### when the heaps change -/
theorem FdOk.step {B H B' H' : Hp} (eb : Ex B B') {v : V} {x : Fd} {a : Option Addr} (h : FdOk G B H v x a) (k : ∀ p, a = some p → H' p = H p ∧ (B p = none → B' p = none)) : FdOk G B' H' v x a := by
  cases x with
  | fz d => cases a with
    | none => exact Fr.mono eb h
    | some p => exact h.elim
  | lst ds => cases a with
    | none => exact h.elim
    | some p =>
      obtain ⟨rfl, hb, vs, hp, l⟩ := h
      exact ⟨rfl, (k p rfl).2 hb, vs, by rw [(k p rfl).1]; exact hp, l.mono eb⟩
  | dic ds => cases a with
    | none => exact h.elim
    | some p =>
      obtain ⟨rfl, hb, h⟩ := h
      refine ⟨rfl, (k p rfl).2 hb, ?_⟩
      rcases h with ⟨kvs, l0, rfl, hp, l⟩ | ⟨kvs, l0, rfl, hp, l⟩
      · exact .inl ⟨kvs, l0, rfl, by rw [(k p rfl).1]; exact hp, l.mono eb⟩
      · exact .inr ⟨kvs, l0, rfl, by rw [(k p rfl).1]; exact hp, l.mono eb⟩
theorem FdsOk.step {B H B' H' : Hp} (eb : Ex B B') : ∀ {vs : List V} {xs : List Fd} {as : SA}, FdsOk G B H vs xs as → (∀ p, some p ∈ as → H' p = H p ∧ (B p = none → B' p = none)) → FdsOk G B' H' vs xs as
  | _, _, _, .nil, _ => .nil
  | _, _, _, .cons h l, k => .cons (h.step eb fun p e => k p (by simp [e])) (FdsOk.step eb l fun p e => k p (List.mem_cons_of_mem _ e))
theorem OOk.step {B H B' H' : Hp} (eb : Ex B B') {v : V} {x : O} {s : SA} (h : OOk G B H v x s) (k : ∀ p, some p ∈ s → H' p = H p ∧ (B p = none → B' p = none)) : OOk G B' H' v x s := by
  cases x with
  | f x =>
    obtain ⟨a, rfl, h⟩ := h
    exact ⟨a, rfl, h.step eb fun p e => k p (by simp [e])⟩
  | ins c fs =>
    obtain ⟨p, qs, dx, vs, rfl, rfl, hb, hp, hl, h⟩ := h
    exact ⟨p, qs, dx, vs, rfl, rfl, (k p (by simp)).2 hb, by rw [(k p (by simp)).1]; exact hp, hl, h.step eb fun q e => k q (List.mem_cons_of_mem _ e)⟩
theorem SlOk.step {B H B' H' : Hp} (eb : Ex B B') {v : Option V} {x : Option O} {s : SA} (h : SlOk G B H v x s) (k : ∀ p, some p ∈ s → H' p = H p ∧ (B p = none → B' p = none)) : SlOk G B' H' v x s := by
  cases x with
  | none => exact h
  | some x => cases v with
    | none => exact h.elim
    | some v => exact OOk.step (G := G) eb h k
theorem SlsOk.step {B H B' H' : Hp} (eb : Ex B B') : ∀ {vs : St} {xs : Env} {as : SS}, SlsOk G B H vs xs as → (∀ p ∈ fl as, H' p = H p ∧ (B p = none → B' p = none)) → SlsOk G B' H' vs xs as
  | _, _, _, .nil, _ => .nil
  | _, _, _, .cons h l, k => .cons (h.step eb fun p e => k p (by rw [fl_cons]; simp [e])) (SlsOk.step eb l fun p e => k p (by rw [fl_cons]; simp [e]))
theorem FdOk.known {B H : Hp} {v : V} {x : Fd} {a : Option Addr} {p : Addr} (h : FdOk G B H v x a) (e : a = some p) : B p = none ∧ ∃ o, H p = some o := by
  subst e
  cases x with
  | fz d => exact h.elim
  | lst ds => obtain ⟨_, b, vs, e, _⟩ := h; exact ⟨b, _, e⟩
  | dic ds => obtain ⟨_, b, h⟩ := h; rcases h with ⟨_, _, _, e, _⟩ | ⟨_, _, _, e, _⟩ <;> exact ⟨b, _, e⟩
theorem FdsOk.known {B H : Hp} : ∀ {vs : List V} {xs : List Fd} {as : SA}, FdsOk G B H vs xs as → ∀ p, some p ∈ as → B p = none ∧ ∃ o, H p = some o
  | _, _, _, .nil, p, hp => by cases hp
  | _, _, _, .cons h l, p, hp => by
    rcases List.mem_cons.mp hp with e | hp
    · exact h.known e.symm
    · exact FdsOk.known l p hp
theorem OOk.known {B H : Hp} {v : V} {x : O} {s : SA} (h : OOk G B H v x s) : ∀ p, some p ∈ s → B p = none ∧ ∃ o, H p = some o := fun p hp => by
  cases x with
  | f x =>
    obtain ⟨a, rfl, h⟩ := h
    have e : some p = a := by simpa using hp
    exact h.known e.symm
  | ins c fs =>
    obtain ⟨r, qs, dx, vs, rfl, rfl, hb, hr, hl, h⟩ := h
    rcases List.mem_cons.mp hp with e | q
    · cases e; exact ⟨hb, _, hr⟩
    · exact h.known p q
theorem SlsOk.known {B H : Hp} : ∀ {σ : St} {env : Env} {ss : SS}, SlsOk G B H σ env ss → ∀ p ∈ fl ss, B p = none ∧ ∃ o, H p = some o
  | _, _, _, .nil, p, hp => by cases hp
  | _, _, _, .cons (v := v) (x := x) (a := a) h l, p, hp => by
    rw [fl_cons] at hp
    rcases List.mem_append.mp hp with q | q
    · have q : some p ∈ a := by simpa using q
      cases x with
      | none => rw [show a = [] from h] at q; cases q
      | some x => cases v with
        | none => exact h.elim
        | some v => exact OOk.known (G := G) h p q
    · exact SlsOk.known l p q
/-- the heap grows, the ground grows at new places: nothing of the slots changes -/
theorem SR.grow {B H B' H' : Hp} {σ : St} {env : Env} {ss : SS} (S : SR G B σ H env ss) (eb : Ex B B') (eh : Ex H H') (e' : Ex B' H') (bn : ∀ a o, H a = some o → B a = none → B' a = none) : SR G B' σ H' env ss ∧ Step B H ss B' H' ss := by
  refine ⟨⟨e', S.sl.step eb fun p hp => ?_, S.nd⟩, eb, fun a o h _ => eh a o h, fun a o h hb _ => bn a o h hb, fun a h => .inl h, fun a h => ?_⟩
  · obtain ⟨hb, o, ho⟩ := S.sl.known p hp
    exact ⟨by rw [ho, eh p o ho], bn p o ho⟩
  · cases e : H a with
    | none => exact absurd e h
    | some o => rw [eh a o e]; simp
/-! ### readings by mirrors -/
variable (G)
def XRep (B H : Hp) (x : Exn) (cls : Value) (dx : Option Addr) : Prop :=
  cls = .ref (G.cA x.c) ∧ ∃ d vs, dx = some d ∧ H d = some (.xd ((G.lay x.c).zip vs)) ∧ vs.length = (G.lay x.c).length ∧ FrL G B vs x.fs
/-- what a result asks of whoever goes on from it; P: the value, the names, the ground, the heap, the addresses, the new ones -/
def Ok {α : Type} (E : WX) (σ : St) (B H : Hp) (ss : SS) (r : Res α) (P : α → Env → Hp → Hp → SS → List Addr → Prop) : Prop :=
  match r with
  | .fail => False
  | .ok a env' => ∀ B' H' ss' N, Step B H ss B' H' ss' → Kp (fun _ => True) ss ss' → SR G B' σ H' env' ss' → (∀ a ∈ N, H a = none ∨ a ∈ fl ss) → P a env' B' H' ss' N
  | .exc x env' => ∀ cls dx B' H' ss', Step B H ss B' H' ss' → Kp (fun _ => True) ss ss' → SR G B' σ H' env' ss' → XRep G B' H' x cls dx → E cls dx σ H'
variable {G}
theorem Ok.step {α : Type} {E : WX} {σ : St} {B H B1 H1 : Hp} {ss ss1 : SS} {r : Res α} {P : α → Env → Hp → Hp → SS → List Addr → Prop} (st : Step B H ss B1 H1 ss1) (kp : Kp (fun _ => True) ss ss1) (h : Ok G E σ B H ss r P) : Ok G E σ B1 H1 ss1 r P := by
  cases r with
  | fail => exact h
  | ok a e =>
    intro B' H' ss' N st' kp' S hN
    exact h B' H' ss' N (st.trans st') (kp.trans kp') S fun a ha => st.fresh (hN a ha)
  | exc x e =>
    intro cls dx B' H' ss' st' kp' S xr
    exact h cls dx B' H' ss' (st.trans st') (kp.trans kp') S xr
variable (G)
/-- a thing of ours that no name holds yet -/
def FrshOk (B H : Hp) (ss : SS) (v : V) (o : O) (s : SA) : Prop := OOk G B H v o s ∧ (∀ p, some p ∈ s → p ∉ fl ss) ∧ (s.filterMap id).Nodup
def RRep (σ : St) (B H : Hp) (ss : SS) (v : V) (r : R) (s : SA) : Prop :=
  match r with
  | .d x => s = [] ∧ Fr G B v x
  | .lst xs => FrshOk G B H ss v (.f (.lst xs)) s
  | .dic xs => FrshOk G B H ss v (.f (.dic xs)) s
  | .ins c fs => FrshOk G B H ss v (.ins c fs) s
  | .at i => s = [] ∧ σ[i]? = some (some v)
  | .fld i j => s = [] ∧ ∃ p q, v = .ref p ∧ ss[i]? = some q ∧ q[j + 1]? = some (some p)
def OpRep (σ : St) (B H : Hp) (ss : SS) (v : V) (r : Op) : Prop :=
  match r with
  | .d x => Fr G B v x
  | .at i => σ[i]? = some (some v)
  | .fld i j => ∃ p q, v = .ref p ∧ ss[i]? = some q ∧ j + 1 < q.length ∧ ∀ p', q[j + 1]? = some (some p') → p' = p
def tE (E : WX) (m : M R) : TE := fun σ H Q => ∃ B env ss, SR G B σ H env ss ∧ Ok G E σ B H ss (m env) fun r _ B' H' ss' N => ∀ v s, s.filterMap id = N → RRep G σ B' H' ss' v r s → Q v H'
variable {G}
theorem KpS.at {s s' : SA} (k : KpS s s') {j : Nat} {p p' : Addr} (h : s[j]? = some (some p)) (h' : s'[j]? = some (some p')) : p = p' := by
  have hj : j < s.length := (List.getElem?_eq_some_iff.mp h).1
  have q := k.2 j p' hj h'
  rw [h] at q; exact Option.some.inj (Option.some.inj q)

/-- an expression runs, its value goes to k -/
theorem tE_run {β : Type} {E : WX} {m : M R} {k : R → M β} {P : β → Env → Hp → Hp → SS → List Addr → Prop} {B H : Hp} {σ : St} {env : Env} {ss : SS} {Q : VK} (S : SR G B σ H env ss) (h : Ok G E σ B H ss (bnd m k env) P)
    (hk : ∀ r env1 v s B1 H1 ss1, m env = .ok r env1 → Step B H ss B1 H1 ss1 → Kp (fun _ => True) ss ss1 → SR G B1 σ H1 env1 ss1 → RRep G σ B1 H1 ss1 v r s → (∀ p, some p ∈ s → H p = none ∨ p ∈ fl ss) → Ok G E σ B1 H1 ss1 (k r env1) P → Q v H1) : tE G E m σ H Q := by
  refine ⟨B, env, ss, S, ?_⟩
  unfold bnd at h
  cases hm : m env with
  | fail => rw [hm] at h; exact h
  | exc x e => rw [hm] at h; exact h
  | ok r env1 =>
    rw [hm] at h
    intro B1 H1 ss1 N st kp S1 hN v s es R1
    exact hk r env1 v s B1 H1 ss1 hm st kp S1 R1 (fun p hp => hN p (by rw [← es]; simpa using hp)) (Ok.step st kp h)

/-! ### operands -/
def toOp : R → Option Op
  | .d x => some (.d x)
  | .lst xs => some (.d (.lst xs))
  | .dic xs => some (.d (.dic xs))
  | .at i => some (.at i)
  | .fld i j => some (.fld i j)
  | .ins _ _ => none
def opd (m : M R) : M Op := bnd m fun r => lift (toOp r)
def vw (env : Env) : Op → Option D
  | .d x => some x
  | .at i => match env[i]? with
    | some (some (.f (.lst xs))) => some (.lst xs)
    | some (some (.f (.dic xs))) => some (.dic xs)
    | some (some (.f (.fz x))) => some x
    | _ => none
  | .fld i j => match env[i]? with
    | some (some (.ins _ fs)) => match fs[j]? with
      | some (.lst xs) => some (.lst xs)
      | some (.dic xs) => some (.dic xs)
      | _ => none
    | _ => none
def vws (env : Env) : List Op → Option (List D)
  | [] => some []
  | o :: r => match vw env o, vws env r with
    | some d, some ds => some (d :: ds)
    | _, _ => none
def args : List (M R) → M (List Op)
  | [] => ret []
  | m :: r => bnd (opd m) fun o => bnd (args r) fun os => ret (o :: os)
def seen (os : List Op) : M (List D) := fun env => match vws env os with
  | some ds => .ok ds env
  | none => .fail
/-- an operation on values -/
def opM (g : List D → Option R) (ms : List (M R)) : M R := bnd (args ms) fun os => bnd (seen os) fun ds => lift (g ds)

theorem OpRep.step {σ : St} {B H B' H' : Hp} {ss ss' : SS} {v : V} {o : Op} (eb : Ex B B') (kp : Kp (fun _ => True) ss ss') (h : OpRep G σ B H ss v o) : OpRep G σ B' H' ss' v o := by
  cases o with
  | d x => exact Fr.mono eb h
  | «at» i => exact h
  | fld i j =>
    obtain ⟨p, q, rfl, e, hj, hq⟩ := h
    obtain ⟨q', e', k⟩ := kp i trivial q e
    exact ⟨p, q', rfl, e', Nat.lt_of_lt_of_le hj k.1, fun p' z => hq p' (k.2 (j + 1) p' hj z)⟩
/-- a value is laid into the ground -/
theorem Fr.ofOwn {B H : Hp} {v : V} {x : Fd} {p : Addr} (e : Ex B H) (h : FdOk G B H v x (some p)) : ∃ o d, H p = some o ∧ (match x with | .fz _ => none | .lst xs => some (D.lst xs) | .dic xs => some (D.dic xs)) = some d ∧ Fr G (upd B p o) v d ∧ Ex B (upd B p o) ∧ Ex (upd B p o) H := by
  have ex : ∀ o, B p = none → H p = some o → Ex B (upd B p o) ∧ Ex (upd B p o) H := fun o hb hp => ⟨Ex.new hb, fun a u q => by
    by_cases ha : a = p
    · subst ha; rw [upd_same] at q; cases q; exact hp
    · rw [upd_ne ha] at q; exact e a u q⟩
  cases x with
  | fz d => exact h.elim
  | lst ds =>
    obtain ⟨rfl, hb, vs, hp, l⟩ := h
    obtain ⟨e1, e2⟩ := ex _ hb hp
    exact ⟨_, _, hp, rfl, .lst upd_same (l.mono e1), e1, e2⟩
  | dic ds =>
    obtain ⟨rfl, hb, h⟩ := h
    rcases h with ⟨kvs, l0, rfl, hp, l⟩ | ⟨kvs, l0, rfl, hp, l⟩
    · obtain ⟨e1, e2⟩ := ex _ hb hp
      exact ⟨_, _, hp, rfl, .dK upd_same (l.mono e1), e1, e2⟩
    · obtain ⟨e1, e2⟩ := ex _ hb hp
      exact ⟨_, _, hp, rfl, .dT upd_same (l.mono e1), e1, e2⟩
/-- a new thing of ours is frozen: the ground grows at its address -/
theorem frsh_freeze {B1 H1 : Hp} {σ : St} {env : Env} {ss1 : SS} {v : V} {x : Fd} {s : SA} (S : SR G B1 σ H1 env ss1) (h : FrshOk G B1 H1 ss1 v (.f x) s)
    (hx : ∀ d, x ≠ .fz d) : ∃ B2 d, (match x with | .fz _ => none | .lst xs => some (D.lst xs) | .dic xs => some (D.dic xs)) = some d ∧ Fr G B2 v d ∧ Ex B1 B2 ∧ SR G B2 σ H1 env ss1 ∧
      ∀ B H ss, Step B H ss B1 H1 ss1 → (∀ p, some p ∈ s → H p = none ∨ p ∈ fl ss) → Step B H ss B2 H1 ss1 := by
  obtain ⟨⟨a, rfl, h⟩, hd, _⟩ := h
  cases a with
  | none =>
    cases x with
    | fz d => exact absurd rfl (hx d)
    | lst ds => exact h.elim
    | dic ds => exact h.elim
  | some p =>
    obtain ⟨o, d, hp, hm, hf, e1, e2⟩ := Fr.ofOwn S.ex h
    have hps : p ∉ fl ss1 := hd p (by simp)
    refine ⟨upd B1 p o, d, hm, hf, e1, ⟨e2, S.sl.step e1 fun q hq => ⟨rfl, fun hb => ?_⟩, S.nd⟩, fun B H ss st hn => ⟨st.eb.trans e1, st.fr, fun a u ha hb hna => ?_, st.nw, st.kp⟩⟩
    · rw [upd_ne (show q ≠ p by rintro rfl; exact hps hq)]; exact hb
    · have hne : a ≠ p := by
        rintro rfl
        rcases hn a (by simp) with z | z
        · rw [ha] at z; cases z
        · exact hna z
      rw [upd_ne hne]; exact st.bn a u ha hb hna
/-- an operand runs -/
theorem opd_run {β : Type} {E : WX} {m : M R} {k : Op → M β} {P : β → Env → Hp → Hp → SS → List Addr → Prop} {B H : Hp} {σ : St} {env : Env} {ss : SS} {Q : VK} (S : SR G B σ H env ss) (h : Ok G E σ B H ss (bnd (opd m) k env) P)
    (hk : ∀ o env1 v B1 H1 ss1, Step B H ss B1 H1 ss1 → Kp (fun _ => True) ss ss1 → SR G B1 σ H1 env1 ss1 → OpRep G σ B1 H1 ss1 v o → Ok G E σ B1 H1 ss1 (k o env1) P → Q v H1) : tE G E m σ H Q := by
  have e : bnd (opd m) k = bnd m fun r => bnd (lift (toOp r)) k := by
    funext x; unfold opd bnd
    cases m x <;> rfl
  rw [e] at h
  refine tE_run S h fun r env1 v s B1 H1 ss1 hm st kp S1 R1 hn h1 => ?_
  cases r with
  | d x => exact hk (.d x) env1 v B1 H1 ss1 st kp S1 R1.2 h1
  | «at» i => exact hk (.at i) env1 v B1 H1 ss1 st kp S1 R1.2 h1
  | fld i j =>
    obtain ⟨_, p, q, e1, e2, e3⟩ := R1
    exact hk (.fld i j) env1 v B1 H1 ss1 st kp S1 ⟨p, q, e1, e2, (List.getElem?_eq_some_iff.mp e3).1, fun p' z => by rw [e3] at z; cases z; rfl⟩ h1
  | ins c fs => exact h1.elim
  | lst xs =>
    obtain ⟨B2, d, hd, hf, e1, S2, st2'⟩ := frsh_freeze S1 R1 (by intro d; simp)
    have st2 := st2' B H ss st hn
    cases hd
    refine hk (.d (.lst xs)) env1 v B2 H1 ss1 st2 kp S2 hf ?_
    have h0 : Ok G E σ B H ss (k (.d (.lst xs)) env1) P := by
      have := h
      unfold bnd at this
      rw [hm] at this
      exact this
    exact Ok.step st2 kp h0
  | dic xs =>
    obtain ⟨B2, d, hd, hf, e1, S2, st2'⟩ := frsh_freeze S1 R1 (by intro d; simp)
    have st2 := st2' B H ss st hn
    cases hd
    refine hk (.d (.dic xs)) env1 v B2 H1 ss1 st2 kp S2 hf ?_
    have h0 : Ok G E σ B H ss (k (.d (.dic xs)) env1) P := by
      have := h
      unfold bnd at this
      rw [hm] at this
      exact this
    exact Ok.step st2 kp h0
end DV

set_option Elab.async false
set_option linter.all false
set_option maxRecDepth 100000
set_option maxHeartbeats 1000000
/-! DV1: expressions. -/
namespace DV
open PySem L2
variable {G : Cfg}
theorem bnd_assoc {α β γ : Type} (m : M α) (k : α → M β) (l : β → M γ) : bnd (bnd m k) l = bnd m fun a => bnd (k a) l := by
  funext e; unfold bnd; cases m e <;> rfl
theorem Ok_run {α β : Type} {E : WX} {m : M α} {k : α → M β} {P : β → Env → Hp → Hp → SS → List Addr → Prop} {P' : α → Env → Hp → Hp → SS → List Addr → Prop} {B H : Hp} {σ : St} {env : Env} {ss : SS} (h : Ok G E σ B H ss (bnd m k env) P)
    (hk : ∀ a env1 B1 H1 ss1 N, m env = .ok a env1 → Step B H ss B1 H1 ss1 → Kp (fun _ => True) ss ss1 → SR G B1 σ H1 env1 ss1 → (∀ p ∈ N, H p = none ∨ p ∈ fl ss) → Ok G E σ B1 H1 ss1 (k a env1) P → P' a env1 B1 H1 ss1 N) : Ok G E σ B H ss (m env) P' := by
  unfold bnd at h
  cases hm : m env with
  | fail => rw [hm] at h; exact h
  | exc x e => rw [hm] at h; exact h
  | ok r env1 =>
    rw [hm] at h
    intro B1 H1 ss1 N st kp S1 hN
    exact hk r env1 B1 H1 ss1 N hm st kp S1 hN (Ok.step st kp h)
theorem Ok.get {α : Type} {E : WX} {σ : St} {B H : Hp} {ss : SS} {a : α} {env : Env} {P : α → Env → Hp → Hp → SS → List Addr → Prop} (h : Ok G E σ B H ss (.ok a env) P) (S : SR G B σ H env ss) : P a env B H ss [] :=
  h B H ss [] (Step.refl _ _ _) (Kp.refl _ _) S (fun _ q => nomatch q)
variable (G)
inductive Vw (B H : Hp) : V → D → Prop
  | fr {v : V} {d : D} : Fr G B v d → Vw B H v d
  | lst {p : Addr} {vs : List V} {ds : List D} : H p = some (.lst vs) → FrL G B vs ds → Vw B H (.ref p) (.lst ds)
  | dK {p : Addr} {kvs : List (Key × V)} {ds : List (D × D)} : H p = some (.dK kvs) → FrK G B kvs ds → Vw B H (.ref p) (.dic (false, ds))
  | dT {p : Addr} {kvs : List (List Key × V)} {ds : List (D × D)} : H p = some (.dT kvs) → FrT G B kvs ds → Vw B H (.ref p) (.dic (true, ds))
inductive VwL (B H : Hp) : List V → List D → Prop
  | nil : VwL B H [] []
  | cons {v : V} {d : D} {vs : List V} {ds : List D} : Vw G B H v d → VwL B H vs ds → VwL B H (v :: vs) (d :: ds)
inductive OpsRep (σ : St) (B H : Hp) (ss : SS) : List V → List Op → Prop
  | nil : OpsRep σ B H ss [] []
  | cons {v : V} {d : Op} {vs : List V} {ds : List Op} : OpRep G σ B H ss v d → OpsRep σ B H ss vs ds → OpsRep σ B H ss (v :: vs) (d :: ds)
variable {G}
theorem Vw.ofFd {B H : Hp} {v : V} {x : Fd} {a : Option Addr} (h : FdOk G B H v x a) : ∀ d, (match x with | .fz d => d | .lst xs => D.lst xs | .dic xs => D.dic xs) = d → Vw G B H v d := fun d e => by
  subst e
  cases x with
  | fz d => cases a with
    | none => exact .fr h
    | some p => exact h.elim
  | lst ds => cases a with
    | none => exact h.elim
    | some p => obtain ⟨rfl, _, vs, hp, l⟩ := h; exact .lst hp l
  | dic ds => cases a with
    | none => exact h.elim
    | some p =>
      obtain ⟨rfl, _, h⟩ := h
      rcases h with ⟨kvs, l0, rfl, hp, l⟩ | ⟨kvs, l0, rfl, hp, l⟩
      · exact .dK hp l
      · exact .dT hp l
theorem FdsOk.get {B H : Hp} : ∀ {vs : List V} {xs : List Fd} {as : SA} {j : Nat} {x : Fd}, FdsOk G B H vs xs as → xs[j]? = some x → ∃ v a, vs[j]? = some v ∧ as[j]? = some a ∧ FdOk G B H v x a
  | _, _, _, _, _, .nil, e => by simp at e
  | _, _, _, 0, _, .cons h _, e => by simp at e; subst e; exact ⟨_, _, rfl, rfl, h⟩
  | _, _, _, j + 1, _, .cons _ l, e => by
    obtain ⟨v, a, h1, h2, h3⟩ := FdsOk.get (j := j) l (by simpa using e)
    exact ⟨v, a, by simpa using h1, by simpa using h2, h3⟩
theorem FdsOk.len {B H : Hp} : ∀ {vs : List V} {xs : List Fd} {as : SA}, FdsOk G B H vs xs as → vs.length = xs.length ∧ as.length = xs.length
  | _, _, _, .nil => ⟨rfl, rfl⟩
  | _, _, _, .cons _ l => by simp [l.len.1, l.len.2]
theorem vw_ok {B H : Hp} {σ : St} {env : Env} {ss : SS} {v : V} {o : Op} {d : D} (S : SR G B σ H env ss) (h : OpRep G σ B H ss v o) (e : vw env o = some d) : Vw G B H v d := by
  cases o with
  | d x => cases e; exact .fr h
  | «at» i =>
    unfold vw at e
    cases he : env[i]? with
    | none => simp [he] at e
    | some o => cases o with
      | none => simp [he] at e
      | some o =>
        obtain ⟨v', s, e1, e2, h'⟩ := S.sl.get he
        rw [show σ[i]? = some (some v) from h] at e1
        cases e1
        cases o with
        | ins c fs => simp [he] at e
        | f x =>
          obtain ⟨a, rfl, h'⟩ := h'
          refine Vw.ofFd h' d ?_
          cases x <;> simp [he] at e <;> exact e
  | fld i j =>
    unfold vw at e
    cases he : env[i]? with
    | none => simp [he] at e
    | some o => cases o with
      | none => simp [he] at e
      | some o =>
        cases o with
        | f x => simp [he] at e
        | ins c fs =>
          obtain ⟨v', s, e1, e2, p, qs, dx, vs, rfl, rfl, hb, hp, hl, hf⟩ := S.sl.get he
          obtain ⟨p', q, rfl, eq1, hj, hq⟩ := h
          rw [e2] at eq1; cases eq1
          simp only [he] at e
          cases hx : fs[j]? with
          | none => simp [hx] at e
          | some x =>
            obtain ⟨w, a, h1, h2, h3⟩ := hf.get hx
            cases x with
            | fz d => simp [hx] at e
            | lst ds =>
              cases a with
              | none => exact h3.elim
              | some r =>
                have : r = p' := hq r (by simpa using h2)
                subst this
                simp [hx] at e; subst e
                obtain ⟨_, _, vs, hp, l⟩ := h3
                exact .lst hp l
            | dic ds =>
              cases a with
              | none => exact h3.elim
              | some r =>
                have : r = p' := hq r (by simpa using h2)
                subst this
                simp [hx] at e; subst e
                obtain ⟨_, _, h⟩ := h3
                rcases h with ⟨kvs, l0, rfl, hp, l⟩ | ⟨kvs, l0, rfl, hp, l⟩
                · exact .dK hp l
                · exact .dT hp l
theorem vws_ok {B H : Hp} {σ : St} {env : Env} {ss : SS} (S : SR G B σ H env ss) : ∀ {vs : List V} {os : List Op} {ds : List D}, OpsRep G σ B H ss vs os → vws env os = some ds → VwL G B H vs ds
  | _, _, _, .nil, e => by cases e; exact .nil
  | _, _, _, .cons (d := o) (ds := os) h l, e => by
    unfold vws at e
    cases h1 : vw env o with
    | none => simp [h1] at e
    | some d => cases h2 : vws env os with
      | none => simp [h1, h2] at e
      | some ds => simp [h1, h2] at e; subst e; exact .cons (vw_ok S h h1) (vws_ok S l h2)
theorem OpsRep.step {σ : St} {B H B' H' : Hp} {ss ss' : SS} (eb : Ex B B') (kp : Kp (fun _ => True) ss ss') : ∀ {vs : List V} {os : List Op}, OpsRep G σ B H ss vs os → OpsRep G σ B' H' ss' vs os
  | _, _, .nil => .nil
  | _, _, .cons h l => .cons (h.step eb kp) (OpsRep.step eb kp l)

/-! ### what an operation on values does -/
variable (G)
structure Grow (B H B' H' : Hp) : Prop where
  eb : Ex B B'
  eh : Ex H H'
  ex : Ex B' H'
  bn : ∀ a o, H a = some o → B a = none → B' a = none
def NewV (B H : Hp) (v : V) (q : R) (s : SA) : Prop :=
  match q with
  | .d x => s = [] ∧ Fr G B v x
  | .lst xs => OOk G B H v (.f (.lst xs)) s
  | .dic xs => OOk G B H v (.f (.dic xs)) s
  | _ => False
def RdV (rd : List V → Hp → VK → Prop) (g : List D → Option R) : Prop :=
  ∀ B H vs ds q, Ex B H → VwL G B H vs ds → g ds = some q → ∀ Q : VK, (∀ v s B' H', Grow B H B' H' → NewV G B' H' v q s → (∀ p, some p ∈ s → H p = none) → Q v H') → rd vs H Q
variable {G}
theorem Grow.refl {B H : Hp} (e : Ex B H) : Grow B H B H := ⟨Ex.refl _, Ex.refl _, e, fun _ _ _ h => h⟩
theorem OOk.one {B H : Hp} {v : V} {x : Fd} {s : SA} (h : OOk G B H v (.f x) s) : (s.filterMap id).Nodup := by
  obtain ⟨a, rfl, _⟩ := h
  cases a <;> simp
/-- the end of an operation -/
theorem fin_rd {E : WX} {rd : List V → Hp → VK → Prop} {g : List D → Option R} (hr : RdV G rd g) {B H : Hp} {σ : St} {env : Env} {ss : SS} {vs : List V} {os : List Op} {Q : VK} (S : SR G B σ H env ss) (ho : OpsRep G σ B H ss vs os)
    (h : Ok G E σ B H ss (bnd (seen os) (fun ds => lift (g ds)) env) fun r _ B' H' ss' N => ∀ v s, s.filterMap id = N → RRep G σ B' H' ss' v r s → Q v H') : rd vs H Q := by
  unfold bnd seen at h
  cases hd : vws env os with
  | none => simp [hd] at h; exact h.elim
  | some ds =>
    simp only [hd] at h
    cases hg : g ds with
    | none => simp only [hg, lift, failM] at h; exact h.elim
    | some q =>
      simp only [hg, lift, ret] at h
      refine hr B H vs ds q S.ex (vws_ok S ho hd) hg Q fun v s B' H' gr nv hs => ?_
      obtain ⟨S', st⟩ := S.grow gr.eb gr.eh gr.ex gr.bn
      refine h B' H' ss (s.filterMap id) st (Kp.refl _ _) S' (fun a ha => .inl (hs a (by simpa using ha))) v s rfl ?_
      have dj : ∀ p, some p ∈ s → p ∉ fl ss := fun p hp hq => by
        obtain ⟨_, o, z⟩ := S.sl.known p hq
        rw [hs p hp] at z; cases z
      cases q with
      | d x => exact nv
      | lst xs => exact ⟨nv, dj, OOk.one nv⟩
      | dic xs => exact ⟨nv, dj, OOk.one nv⟩
      | ins c fs => exact nv.elim
      | «at» i => exact nv.elim
      | fld i j => exact nv.elim
theorem tOp_of {E : WX} {r : R2} {g : List D → Option R} (hr : RdV G (fun vs H Q => ∃ x y, vs = [x, y] ∧ r x y H Q) g) {ma mb : M R} {σ : St} {H : Hp} {Q : VK} (h : tE G E (opM g [ma, mb]) σ H Q) : tOp r (tE G E ma) (tE G E mb) σ H Q := by
  obtain ⟨B, env, ss, S, h⟩ := h
  unfold opM args args args at h
  simp only [bnd_assoc, bnd_ret] at h
  refine opd_run S h fun o env1 v B1 H1 ss1 st kp S1 O1 h1 => ?_
  refine opd_run S1 h1 fun o2 env2 v2 B2 H2 ss2 st2 kp2 S2 O2 h2 => ?_
  obtain ⟨x, y, e, q⟩ := fin_rd hr S2 (.cons (O1.step st2.eb kp2) (.cons O2 .nil)) h2
  cases e
  exact q
theorem tUn_of {E : WX} {r : V → Hp → VK → Prop} {g : List D → Option R} (hr : RdV G (fun vs H Q => ∃ x, vs = [x] ∧ r x H Q) g) {ma : M R} {σ : St} {H : Hp} {Q : VK} (h : tE G E (opM g [ma]) σ H Q) : tUn r (tE G E ma) σ H Q := by
  obtain ⟨B, env, ss, S, h⟩ := h
  unfold opM args args at h
  simp only [bnd_assoc, bnd_ret] at h
  refine opd_run S h fun o env1 v B1 H1 ss1 st kp S1 O1 h1 => ?_
  obtain ⟨x, e, q⟩ := fin_rd hr S1 (.cons O1 .nil) h1
  cases e
  exact q
/-! ### argument lists -/
variable (G)
def tA (E : WX) (m : M (List Op)) : TA := fun σ H Q => ∃ B env ss, SR G B σ H env ss ∧ Ok G E σ B H ss (m env) fun os _ B' H' ss' _ => ∀ vs, OpsRep G σ B' H' ss' vs os → Q vs H'
variable {G}
theorem tCB_of {E : WX} {rd : List V → Hp → VK → Prop} {g : List D → Option R} (hr : RdV G rd g) {ms : List (M R)} {σ : St} {H : Hp} {Q : VK} (h : tE G E (opM g ms) σ H Q) : tCB rd (tA G E (args ms)) σ H Q := by
  obtain ⟨B, env, ss, S, h⟩ := h
  refine ⟨B, env, ss, S, Ok_run h fun os env1 B1 H1 ss1 N hm st kp S1 hN h1 vs ho => ?_⟩
  exact fin_rd hr S1 ho h1

/-! ### judgements -/
section
variable {X : Cx} {E : WX} {e : Expr} {es : List Expr} {pos : Pos}
variable (G X E)
def JE (e : Expr) (m : M R) : Prop := PE X e (tE G E m)
def JA (es : List Expr) (ms : List (M R)) : Prop := PA X es (tA G E (args ms))
def tT (m : M Bool) : TT := fun σ H Q => ∃ B env ss, SR G B σ H env ss ∧ Ok G E σ B H ss (m env) fun b _ _ H' _ _ => Q b H'
def JT (e : Expr) (m : M Bool) : Prop := PT X e (tT G E m)
def JW (e : Expr) (m : M Bool) : Prop := PW X e (tT G E m)
variable {G X E}
theorem pe_weak {t t' : TE} (h : PE X e t) (w : ∀ σ H Q, t' σ H Q → t σ H Q) : PE X e t' := ⟨fun pins s σ H Q I q => h.run pins s σ H Q I (w σ H Q q)⟩
theorem pt_weak {t t' : TT} (h : PT X e t) (w : ∀ σ H Q, t' σ H Q → t σ H Q) : PT X e t' := ⟨fun pins s σ H Q I q => h.run pins s σ H Q I (w σ H Q q)⟩
theorem pw_weak {t t' : TT} (h : PW X e t) (w : ∀ σ H Q, t' σ H Q → t σ H Q) : PW X e t' := ⟨fun wh pins s σ H Q I q => h.run wh pins s σ H Q I (w σ H Q q)⟩
theorem pa_weak {t t' : TA} (h : PA X es t) (w : ∀ σ H Q, t' σ H Q → t σ H Q) : PA X es t' := ⟨fun pos pins s σ H Q I q => h.run pos pins s σ H Q I (w σ H Q q)⟩
theorem ja_nil : JA G X E [] [] := pa_weak pa_nil fun σ H Q ⟨B, env, ss, S, h⟩ => (show Ok G E σ B H ss (.ok [] env) _ from h).get S [] .nil
theorem ja_cons {m : M R} {ms : List (M R)} (h : JE G X E e m) (hr : JA G X E es ms) (hs : starEach (e :: es) X.env = (false, eval e X.env) :: starEach es X.env := by rfl) : JA G X E (e :: es) (m :: ms) := by
  refine pa_weak (pa_cons h hr hs) fun σ H Q ⟨B, env, ss, S, h⟩ => ?_
  unfold args at h
  refine opd_run S h fun o env1 v B1 H1 ss1 st kp S1 O1 h1 => ?_
  refine ⟨B1, env1, ss1, S1, Ok_run h1 fun os env2 B2 H2 ss2 N hm st2 kp2 S2 hN h2 vs hvs => ?_⟩
  exact (show Ok G E σ B2 H2 ss2 (.ok (o :: os) env2) _ from h2).get S2 (v :: vs) (.cons (O1.step st2.eb kp2) hvs)

/-! ### names and constants -/
def ldM (i : Nat) : M R := fun env => match env[i]? with
  | some (some (.f (.fz d))) => .ok (.d d) env
  | some (some (.f (.lst _))) => .ok (.at i) env
  | some (some (.f (.dic _))) => .ok (.at i) env
  | some (some (.ins _ _)) => .ok (.at i) env
  | _ => .fail
theorem je_var (i : Nat) {x : Str} (hN : X.N[i]? = some x := by rfl) (hv : Vis X.env.scope x := by first | exact Or.inl rfl | exact Or.inr (Or.inl rfl) | exact Or.inr (Or.inr rfl)) (hd : (x == ("__debug__" : Str)) = false := by decide)
    (hcd : (x == ("__classdict__" : Str)) = false := by decide) : JE G X E (.Name x pos) (ldM i) := by
  refine pe_weak (pe_var hN hv hd hcd) fun σ H Q ⟨B, env, ss, S, h⟩ => ?_
  unfold ldM at h
  cases he : env[i]? with
  | none => simp [he] at h; exact h.elim
  | some o => cases o with
    | none => simp [he] at h; exact h.elim
    | some o =>
      obtain ⟨v, s, e1, e2, h'⟩ := S.sl.get he
      refine ⟨v, e1, ?_⟩
      cases o with
      | ins c fs => simp only [he] at h; exact h.get S v [] rfl ⟨rfl, e1⟩
      | f x => cases x with
        | fz d =>
          simp only [he] at h
          obtain ⟨a, rfl, h'⟩ := h'
          cases a with
          | some p => exact h'.elim
          | none => exact h.get S v [] rfl ⟨rfl, h'⟩
        | lst xs => simp only [he] at h; exact h.get S v [] rfl ⟨rfl, e1⟩
        | dic xs => simp only [he] at h; exact h.get S v [] rfl ⟨rfl, e1⟩
theorem tC_of {v : V} {d : D} (hf : ∀ B, Fr G B v d) {σ : St} {H : Hp} {Q : VK} (h : tE G E (ret (.d d)) σ H Q) : tC v σ H Q := by
  obtain ⟨B, env, ss, S, h⟩ := h
  exact (show Ok G E σ B H ss (.ok _ env) _ from h).get S v [] rfl ⟨rfl, hf B⟩
theorem je_int {i j} : JE G X E (.Constant (.int i) j pos) (ret (.d (.int i))) := pe_weak pe_int fun _ _ _ h => tC_of (fun _ => .int i) h
theorem je_bl {b j} : JE G X E (.Constant (.bool b) j pos) (ret (.d (.bl b))) := pe_weak pe_bl fun _ _ _ h => tC_of (fun _ => .bl b) h
theorem je_non {j} : JE G X E (.Constant .none j pos) (ret (.d .non)) := pe_weak pe_non fun _ _ _ h => tC_of (fun _ => .non) h
theorem je_str {x j} (l : List Nat) (hx : x = ⟨l.toArray⟩ := by decide +kernel) : JE G X E (.Constant (.str x) j pos) (ret (.d (.str l))) := pe_weak pe_str fun _ _ _ h => tC_of (fun _ => by subst hx; exact .str l) h
theorem je_glob {x : Str} {v : V} {u : Value} {d : D} (hm : X.mg x = some u) (r : RelV v u) (hf : ∀ B, Fr G B v d) (hg : Gl X x := by rfl) (hd : (x == ("__debug__" : Str)) = false := by decide) : JE G X E (.Name x pos) (ret (.d d)) := pe_weak (pe_glob hg hm r hd) fun _ _ _ h => tC_of hf h

/-! ### operations -/
theorem je_bin {a b : Expr} {op : Operator} {r : R2} {g : List D → Option R} {ma mb : M R} (ho : OpR X (binaryOp op) r) (hr : RdV G (fun vs H Q => ∃ x y, vs = [x, y] ∧ r x y H Q) g) (ha : JE G X E a ma) (hb : JE G X E b mb) : JE G X E (.BinOp a op b pos) (opM g [ma, mb]) :=
  pe_weak (pe_op ho ha hb) fun _ _ _ h => tOp_of hr h
theorem je_un {a : Expr} {op : UnaryOp} {r : V → Hp → VK → Prop} {g : List D → Option R} {ma : M R} (ho : UnR X (unaryOp op) r) (hr : RdV G (fun vs H Q => ∃ x, vs = [x] ∧ r x H Q) g) (ha : JE G X E a ma) : JE G X E (.UnaryOp op a pos) (opM g [ma]) :=
  pe_weak (pe_un ho ha) fun _ _ _ h => tUn_of hr h
theorem je_cmp {a b : Expr} {op : CmpOp} {r : R2} {g : List D → Option R} {ma mb : M R} (ho : OpR X (compareOp op) r) (hr : RdV G (fun vs H Q => ∃ x y, vs = [x, y] ∧ r x y H Q) g) (ha : JE G X E a ma) (hb : JE G X E b mb) (hm : behindInMarks op b = false := by rfl) : JE G X E (.Compare a [op] [b] pos) (opM g [ma, mb]) :=
  pe_weak (pe_cmpR ho ha hb hm) fun _ _ _ h => tOp_of hr h
/-- a reading that gives a bool, as a test -/
def blM : R → M Bool
  | .d (.bl b) => ret b
  | _ => failM
def tsM (m : M R) : M Bool := bnd m blM
theorem tTest_of {m : M R} {t : TE} {σ : St} {H : Hp} {Q : Bool → Hp → Prop} (w : ∀ Q, tE G E m σ H Q → t σ H Q) (h : tT G E (tsM m) σ H Q) : tTest t σ H Q := by
  obtain ⟨B, env, ss, S, h⟩ := h
  refine w _ (tE_run S h fun r env1 v s B1 H1 ss1 hm st kp S1 R1 hn h1 => ?_)
  cases r with
  | d x => cases x with
    | bl b =>
      have hv : v = .bl b := by obtain ⟨_, f⟩ := R1; cases f; rfl
      exact ⟨b, hv, h1.get S1⟩
    | _ => exact h1.elim
  | _ => exact h1.elim
theorem jt_cmp {a b : Expr} {op : CmpOp} {r : R2} {g : List D → Option R} {ma mb : M R} (ho : OpR X (compareOp op) r) (hr : RdV G (fun vs H Q => ∃ x y, vs = [x, y] ∧ r x y H Q) g) (ha : JE G X E a ma) (hb : JE G X E b mb) (hm : behindInMarks op b = false := by rfl) : JT G X E (.Compare a [op] [b] pos) (tsM (opM g [ma, mb])) :=
  pt_weak (pt_cmpR ho ha hb hm) fun _ _ _ h => tTest_of (fun _ => tOp_of hr) h
/-- an expression that gives a bool, as a test -/
theorem jt_val {m : M R} (h : JE G X E e m) (he : ∀ whole, isTrue e X.env whole = (do let v ← whole; standAt e.pos; holding [v] (truthy v)) := by intro _; rfl) : JT G X E e (tsM m) :=
  pt_weak (pt_val h he) fun _ _ _ q => by
    obtain ⟨B, env, ss, S, q⟩ := q
    refine tE_run S q fun r env1 v s B1 H1 ss1 hm st kp S1 R1 hn h1 => ?_
    cases r with
    | d x => cases x with
      | bl b =>
        have hv : v = .bl b := by obtain ⟨_, f⟩ := R1; cases f; rfl
        exact ⟨b, hv, h1.get S1⟩
      | _ => exact h1.elim
    | _ => exact h1.elim
/-! ### and, or, not as tests -/
def andM (a b : M Bool) : M Bool := bnd a fun c => if c = true then b else ret false
def orM (a b : M Bool) : M Bool := bnd a fun c => if c = true then ret true else b
def notM (a : M Bool) : M Bool := bnd a fun c => ret (!c)
theorem tT_run {β : Type} {m : M Bool} {k : Bool → M β} {P : β → Env → Hp → Hp → SS → List Addr → Prop} {B H : Hp} {σ : St} {env : Env} {ss : SS} {Q : Bool → Hp → Prop} (S : SR G B σ H env ss) (h : Ok G E σ B H ss (bnd m k env) P)
    (hk : ∀ c env1 B1 H1 ss1, Step B H ss B1 H1 ss1 → Kp (fun _ => True) ss ss1 → SR G B1 σ H1 env1 ss1 → Ok G E σ B1 H1 ss1 (k c env1) P → Q c H1) : tT G E m σ H Q :=
  ⟨B, env, ss, S, Ok_run h fun c env1 B1 H1 ss1 N hm st kp S1 hN h1 => hk c env1 B1 H1 ss1 st kp S1 h1⟩
theorem jw_and1 {a : Expr} {m : M Bool} (h : JT G X E a m) : JW G X E (.BoolOp .And [a] pos) m := pw_and1 h
theorem jw_or1 {a : Expr} {m : M Bool} (h : JT G X E a m) : JW G X E (.BoolOp .Or [a] pos) m := pw_or1 h
theorem jw_and {a b : Expr} {rest : List Expr} {ma mb : M Bool} (ha : JT G X E a ma) (hb : JW G X E (.BoolOp .And (b :: rest) pos) mb) : JW G X E (.BoolOp .And (a :: b :: rest) pos) (andM ma mb) := by
  refine pw_weak (pw_and ha hb) fun σ H Q ⟨B, env, ss, S, h⟩ => ?_
  refine tT_run S h fun c env1 B1 H1 ss1 st kp S1 h1 => ?_
  cases c with
  | true => exact ⟨B1, env1, ss1, S1, h1⟩
  | false => exact h1.get S1
theorem jw_or {a b : Expr} {rest : List Expr} {ma mb : M Bool} (ha : JT G X E a ma) (hb : JW G X E (.BoolOp .Or (b :: rest) pos) mb) : JW G X E (.BoolOp .Or (a :: b :: rest) pos) (orM ma mb) := by
  refine pw_weak (pw_or ha hb) fun σ H Q ⟨B, env, ss, S, h⟩ => ?_
  refine tT_run S h fun c env1 B1 H1 ss1 st kp S1 h1 => ?_
  cases c with
  | false => exact ⟨B1, env1, ss1, S1, h1⟩
  | true => exact h1.get S1
theorem jt_w {m : M Bool} (h : JW G X E e m) : JT G X E e m := PW.pt h
theorem jt_not {a : Expr} {m : M Bool} (h : JT G X E a m) : JT G X E (.UnaryOp .Not a pos) (notM m) := by
  refine pt_weak (pt_not h) fun σ H Q ⟨B, env, ss, S, h⟩ => ?_
  refine tT_run S h fun c env1 B1 H1 ss1 st kp S1 h1 => ?_
  exact (show Ok G E σ B1 H1 ss1 (.ok (!c) env1) _ from h1).get S1
/-! ### and, or, not as values -/
def ofB (m : M Bool) : M R := bnd m fun b => ret (.d (.bl b))
theorem tE_bl {k : Bool → M R} {σ : St} {H : Hp} {Q : VK} {B : Hp} {env : Env} {ss : SS} {me : M R} (S : SR G B σ H env ss) (h : Ok G E σ B H ss (bnd (tsM me) k env) fun r _ B' H' ss' N => ∀ v s, s.filterMap id = N → RRep G σ B' H' ss' v r s → Q v H')
    {Q' : Bool → Hp → Prop} (hk : ∀ b env1 B1 H1 ss1, SR G B1 σ H1 env1 ss1 → Ok G E σ B1 H1 ss1 (k b env1) (fun r _ B' H' ss' N => ∀ v s, s.filterMap id = N → RRep G σ B' H' ss' v r s → Q v H') → Q' b H1) : tE G E me σ H fun x H1 => ∃ c, x = .bl c ∧ Q' c H1 := by
  unfold tsM at h
  rw [bnd_assoc] at h
  refine tE_run S h fun r env1 v s B1 H1 ss1 hm st kp S1 R1 hn h1 => ?_
  cases r with
  | d x => cases x with
    | bl b =>
      have hv : v = .bl b := by obtain ⟨_, f⟩ := R1; cases f; rfl
      exact ⟨b, hv, hk b env1 B1 H1 ss1 S1 h1⟩
    | _ => exact h1.elim
  | _ => exact h1.elim
def andV (a b : M R) : M R := bnd (tsM a) fun c => if c = true then b else ret (.d (.bl false))
def orV (a b : M R) : M R := bnd (tsM a) fun c => if c = true then ret (.d (.bl true)) else b
def notV (a : M R) : M R := bnd (tsM a) fun c => ret (.d (.bl (!c)))
theorem je_one {op} {a : Expr} {m : M R} (h : JE G X E a m) : JE G X E (.BoolOp op [a] pos) m := pe_one h
theorem je_and {a b : Expr} {rest : List Expr} {ma mb : M R} (ha : JE G X E a ma) (hb : JE G X E (.BoolOp .And (b :: rest) pos) mb) : JE G X E (.BoolOp .And (a :: b :: rest) pos) (andV ma mb) := by
  refine pe_weak (pe_and ha hb) fun σ H Q ⟨B, env, ss, S, h⟩ => ?_
  refine tE_bl S h fun c env1 B1 H1 ss1 S1 h1 => ?_
  cases c with
  | true => exact ⟨B1, env1, ss1, S1, h1⟩
  | false => exact h1.get S1 _ [] rfl ⟨rfl, .bl false⟩
theorem je_or {a b : Expr} {rest : List Expr} {ma mb : M R} (ha : JE G X E a ma) (hb : JE G X E (.BoolOp .Or (b :: rest) pos) mb) : JE G X E (.BoolOp .Or (a :: b :: rest) pos) (orV ma mb) := by
  refine pe_weak (pe_or ha hb) fun σ H Q ⟨B, env, ss, S, h⟩ => ?_
  refine tE_bl S h fun c env1 B1 H1 ss1 S1 h1 => ?_
  cases c with
  | false => exact ⟨B1, env1, ss1, S1, h1⟩
  | true => exact h1.get S1 _ [] rfl ⟨rfl, .bl true⟩
theorem je_not {a : Expr} {m : M R} (ha : JE G X E a m) : JE G X E (.UnaryOp .Not a pos) (notV m) := by
  refine pe_weak (pe_not ha) fun σ H Q ⟨B, env, ss, S, h⟩ => ?_
  refine tE_bl S h fun c env1 B1 H1 ss1 S1 h1 => ?_
  exact (show Ok G E σ B1 H1 ss1 (.ok (R.d (D.bl (!c))) env1) (fun r _ B' H' ss' N => ∀ v s, s.filterMap id = N → RRep G σ B' H' ss' v r s → Q v H') from h1).get S1 _ [] rfl ⟨rfl, .bl _⟩
def ifM {α : Type} (c : M Bool) (a b : M α) : M α := bnd c fun c => if c = true then a else b
theorem je_if {c a b : Expr} {mc : M Bool} {ma mb : M R} (hc : JT G X E c mc) (ha : JE G X E a ma) (hb : JE G X E b mb) : JE G X E (.IfExp c a b pos) (ifM mc ma mb) := by
  refine pe_weak (pe_ifExp hc ha hb) fun σ H Q ⟨B, env, ss, S, h⟩ => ?_
  refine tT_run S h fun c env1 B1 H1 ss1 st kp S1 h1 => ?_
  cases c with
  | true => exact ⟨B1, env1, ss1, S1, h1⟩
  | false => exact ⟨B1, env1, ss1, S1, h1⟩
/-! ### built-ins by name -/
theorem je_callB {x : Str} {p : Pos} {id : String} {rd : List V → Hp → VK → Prop} {g : List D → Option R} {ms : List (M R)} (hc : CallR X (.builtin id) rd) (hr : RdV G rd g) (hm : X.mg x = none) (ha : JA G X E (e :: es) ms) (hv : bootBuiltins x = some (.builtin id)) (hg : Gl X x := by rfl) (hn : x ≠ "__name__" := by decide) (hdb : (x == ("__debug__" : Str)) = false := by decide)
    (he : starEach (e :: es) X.env = (false, eval e X.env) :: starEach es X.env := by rfl) (hpl : (backTo pos (starEach es X.env)).any (·.1) = false := by rfl) : JE G X E (.Call (.Name x p) (e :: es) [] pos) (opM g ms) :=
  pe_weak (pe_callB hc hg hm hv ha hn hdb he hpl) fun _ _ _ h => tCB_of hr h
theorem je_callTy {x : Str} {p : Pos} {T : String} {rd : List V → Hp → VK → Prop} {g : List D → Option R} {ms : List (M R)} (hc : CallR X (.type T) rd) (hr : RdV G rd g) (hm : X.mg x = none) (ha : JA G X E (e :: es) ms) (hv : bootBuiltins x = some (.type T)) (hg : Gl X x := by rfl) (hn : x ≠ "__name__" := by decide) (hdb : (x == ("__debug__" : Str)) = false := by decide)
    (he : starEach (e :: es) X.env = (false, eval e X.env) :: starEach es X.env := by rfl) (hpl : (backTo pos (starEach es X.env)).any (·.1) = false := by rfl) : JE G X E (.Call (.Name x p) (e :: es) [] pos) (opM g ms) :=
  pe_weak (pe_callTy hc hg hm hv ha hn hdb he hpl) fun _ _ _ h => tCB_of hr h
end
end DV

set_option Elab.async false
set_option linter.all false
set_option maxRecDepth 100000
set_option maxHeartbeats 1000000
/-! DV2: statements. -/
namespace DV
open PySem L2
variable {G : Cfg}
/-! ### one slot changes -/
theorem fl_set_sub : ∀ {ss : SS} {i : Nat} {s0 s : SA}, ss[i]? = some s0 → (s.filterMap id).Sublist (s0.filterMap id) → (fl (ss.set i s)).Sublist (fl ss)
  | [], _, _, _, e, _ => by simp at e
  | a :: r, 0, s0, s, e, h => by
    simp at e; subst e
    rw [List.set_cons_zero, fl_cons, fl_cons]
    exact h.append (List.Sublist.refl _)
  | a :: r, i + 1, s0, s, e, h => by
    rw [List.set_cons_succ, fl_cons, fl_cons]
    exact (List.Sublist.refl _).append (fl_set_sub (i := i) (by simpa using e) h)
theorem mem_fl_set : ∀ {ss : SS} {i : Nat} {s : SA} {a : Addr}, a ∈ fl (ss.set i s) → some a ∈ s ∨ a ∈ fl ss
  | [], i, s, a, h => by simp [fl] at h
  | b :: r, 0, s, a, h => by
    rw [List.set_cons_zero, fl_cons] at h
    rw [fl_cons]
    rcases List.mem_append.mp h with q | q
    · exact .inl (by simpa using q)
    · exact .inr (List.mem_append_right _ q)
  | b :: r, i + 1, s, a, h => by
    rw [List.set_cons_succ, fl_cons] at h
    rw [fl_cons]
    rcases List.mem_append.mp h with q | q
    · exact .inr (List.mem_append_left _ q)
    · rcases mem_fl_set q with z | z
      · exact .inl z
      · exact .inr (List.mem_append_right _ z)
theorem nodup_fl_set : ∀ {ss : SS} {i : Nat} {s : SA}, (fl ss).Nodup → (s.filterMap id).Nodup → (∀ p, some p ∈ s → p ∉ fl ss) → (fl (ss.set i s)).Nodup
  | [], i, s, _, _, _ => by simp [fl]
  | b :: r, 0, s, h, hs, d => by
    rw [fl_cons] at h
    rw [List.set_cons_zero, fl_cons]
    refine List.nodup_append.mpr ⟨hs, (List.nodup_append.mp h).2.1, fun x hx y hy e => ?_⟩
    subst e
    exact d x (by simpa using hx) (by rw [fl_cons]; exact List.mem_append_right _ hy)
  | b :: r, i + 1, s, h, hs, d => by
    rw [fl_cons] at h
    rw [List.set_cons_succ, fl_cons]
    obtain ⟨h1, h2, h3⟩ := List.nodup_append.mp h
    refine List.nodup_append.mpr ⟨h1, nodup_fl_set h2 hs fun p hp q => d p hp (by rw [fl_cons]; exact List.mem_append_right _ q), fun x hx y hy e => ?_⟩
    subst e
    rcases mem_fl_set hy with q | q
    · exact d x q (by rw [fl_cons]; exact List.mem_append_left _ hx)
    · exact h3 x hx x q rfl
theorem not_mem_fl_set : ∀ {ss : SS} {i : Nat} {s0 s : SA} {p : Addr}, (fl ss).Nodup → ss[i]? = some s0 → some p ∈ s0 → some p ∉ s → p ∉ fl (ss.set i s)
  | [], _, _, _, _, _, e, _, _ => by simp at e
  | a :: r, 0, s0, s, p, h, e, hp, hn => by
    simp at e; subst e
    rw [fl_cons] at h
    rw [List.set_cons_zero, fl_cons]
    intro q
    rcases List.mem_append.mp q with q | q
    · exact hn (by simpa using q)
    · exact (List.nodup_append.mp h).2.2 p (by simpa using hp) p q rfl
  | a :: r, i + 1, s0, s, p, h, e, hp, hn => by
    rw [fl_cons] at h
    rw [List.set_cons_succ, fl_cons]
    intro q
    rcases List.mem_append.mp q with q | q
    · refine (List.nodup_append.mp h).2.2 p q p ?_ rfl
      exact mem_fl.mpr ⟨s0, List.mem_of_getElem? (by simpa using e), hp⟩
    · exact not_mem_fl_set (i := i) (List.nodup_append.mp h).2.1 (by simpa using e) hp hn q
theorem SlsOk.set {B H : Hp} {v : Option V} {o : Option O} {s : SA} (h : SlOk G B H v o s) : ∀ {σ : St} {env : Env} {ss : SS} {i : Nat}, SlsOk G B H σ env ss → SlsOk G B H (σ.set i v) (env.set i o) (ss.set i s)
  | _, _, _, _, .nil => .nil
  | _, _, _, 0, .cons _ l => .cons h l
  | _, _, _, i + 1, .cons q l => .cons q (SlsOk.set h l)
theorem SlsOk.setE {B H : Hp} {v : Option V} {o : Option O} {s : SA} (h : SlOk G B H v o s) {σ : St} {env : Env} {ss : SS} {i : Nat} (hv : σ[i]? = some v) (l : SlsOk G B H σ env ss) : SlsOk G B H σ (env.set i o) (ss.set i s) := by
  have q := SlsOk.set h (i := i) l
  have e : σ.set i v = σ := by
    apply List.ext_getElem?
    intro j
    by_cases hj : i = j
    · subst hj
      rw [hv, List.getElem?_set_self (by exact (List.getElem?_eq_some_iff.mp hv).1)]
    · rw [List.getElem?_set_ne hj]
  rwa [e] at q
theorem kp_set {P : Nat → Prop} {ss : SS} {i : Nat} {s0 s : SA} (e : ss[i]? = some s0) (k : P i → KpS s0 s) : Kp P ss (ss.set i s) := fun j hj sj ej => by
  by_cases h : i = j
  · subst h
    rw [e] at ej; cases ej
    exact ⟨s, List.getElem?_set_self (List.getElem?_eq_some_iff.mp e).1, k hj⟩
  · exact ⟨sj, by rw [List.getElem?_set_ne h]; exact ej, KpS.refl _⟩

/-! ### freezing -/
def frzR : R → M D
  | .d x => ret x
  | .lst xs => ret (.lst xs)
  | .dic xs => ret (.dic xs)
  | .at i => fun env => match env[i]? with
    | some (some (.f (.lst xs))) => .ok (.lst xs) (env.set i (some (.f (.fz (.lst xs)))))
    | some (some (.f (.dic xs))) => .ok (.dic xs) (env.set i (some (.f (.fz (.dic xs)))))
    | some (some (.f (.fz x))) => .ok x env
    | _ => .fail
  | .fld i j => fun env => match env[i]? with
    | some (some (.ins c fs)) => match fs[j]? with
      | some (.lst xs) => .ok (.lst xs) (env.set i (some (.ins c (fs.set j (.fz (.lst xs))))))
      | some (.dic xs) => .ok (.dic xs) (env.set i (some (.ins c (fs.set j (.fz (.dic xs))))))
      | _ => .fail
    | _ => .fail
  | .ins _ _ => failM
/-- a frozen value -/
def frz (m : M R) : M D := bnd m frzR
/-- a slot's own thing is laid into the ground, or some part of it -/
theorem freeze_at {B H : Hp} {σ : St} {env : Env} {ss : SS} {p : Addr} {o : HO} {i : Nat} {s0 s : SA} {v : V} {x : O} (S : SR G B σ H env ss) (hs : ss[i]? = some s0) (hp : some p ∈ s0) (hps : some p ∉ s) (ho : H p = some o) (sub : (s.filterMap id).Sublist (s0.filterMap id)) (kp : KpS s0 s)
    (hv : σ[i]? = some (some v)) (hx : OOk G (upd B p o) H v x s) : SR G (upd B p o) σ H (env.set i (some x)) (ss.set i s) ∧ Step B H ss (upd B p o) H (ss.set i s) ∧ Kp (fun _ => True) ss (ss.set i s) := by
  have pin : p ∈ fl ss := mem_fl.mpr ⟨s0, List.mem_of_getElem? hs, hp⟩
  have hb : B p = none := (S.sl.known p pin).1
  have nm : p ∉ fl (ss.set i s) := not_mem_fl_set S.nd hs hp hps
  have subl := fl_set_sub hs sub
  have e1 : Ex B (upd B p o) := Ex.new hb
  have e2 : Ex (upd B p o) H := fun a u q => by
    by_cases ha : a = p
    · subst ha; rw [upd_same] at q; cases q; exact ho
    · rw [upd_ne ha] at q; exact S.ex a u q
  refine ⟨⟨e2, ?_, S.nd.sublist subl⟩, ⟨e1, fun _ _ h _ => h, fun a u ha hba hn => ?_, fun a ha => .inl (subl.subset ha), fun _ h => h⟩, kp_set hs fun _ => kp⟩
  · have base : SlsOk G (upd B p o) H σ (env.set i none) (ss.set i []) := by
      have q0 : SlsOk G B H σ (env.set i none) (ss.set i []) := S.sl.setE (s := []) (o := none) (v := some v) rfl hv
      refine q0.step e1 fun q hq => ⟨rfl, fun hbq => ?_⟩
      have hne : q ≠ p := by
        rintro rfl
        exact not_mem_fl_set S.nd hs hp (by simp) hq
      rw [upd_ne hne]; exact hbq
    have q1 := base.setE (i := i) (o := some x) (s := s) (v := some v) hx hv
    rw [List.set_set, List.set_set] at q1
    exact q1
  · have hne : a ≠ p := by rintro rfl; exact hn pin
    rw [upd_ne hne]; exact hba
theorem sub_none {p : Addr} : (([none] : SA).filterMap id).Sublist (([some p] : SA).filterMap id) := by simp
theorem kp_none {p : Addr} : KpS [some p] [none] := ⟨Nat.le_refl _, fun j q hj e => by
  have : j = 0 := by simpa using hj
  subst this; simp at e⟩
theorem sub_set_none : ∀ {s : SA} {j : Nat}, ((s.set j none).filterMap id).Sublist (s.filterMap id)
  | [], j => by simp
  | a :: r, 0 => by
    rw [List.set_cons_zero]
    cases a with
    | none => exact List.Sublist.refl _
    | some p => simp
  | a :: r, j + 1 => by
    rw [List.set_cons_succ]
    cases a with
    | none => simpa using sub_set_none (s := r) (j := j)
    | some p => simpa using sub_set_none (s := r) (j := j)
theorem kp_set_none {s : SA} {j : Nat} : KpS s (s.set j none) := ⟨by simp, fun k p hk e => by
  by_cases h : j = k
  · subst h
    rw [List.getElem?_set_self hk] at e; simp at e
  · rwa [List.getElem?_set_ne h] at e⟩
theorem FdsOk.setFz {B H : Hp} {v : V} {d : D} (h : Fr G B v d) : ∀ {vs : List V} {xs : List Fd} {as : SA} {j : Nat}, FdsOk G B H vs xs as → vs[j]? = some v → FdsOk G B H vs (xs.set j (.fz d)) (as.set j none)
  | _, _, _, _, .nil, _ => .nil
  | _, _, _, 0, .cons q l, e => by simp at e; subst e; exact .cons h l
  | _, _, _, j + 1, .cons q l, e => .cons q (FdsOk.setFz h (j := j) l (by simpa using e))
theorem FdsOk.stepBut {B H B' H' : Hp} (eb : Ex B B') : ∀ {vs : List V} {xs : List Fd} {as : SA} {j : Nat} {v : V} {d : D}, FdsOk G B H vs xs as → vs[j]? = some v → Fr G B' v d → (∀ p k, as[k]? = some (some p) → k ≠ j → H' p = H p ∧ (B p = none → B' p = none)) → FdsOk G B' H' vs (xs.set j (.fz d)) (as.set j none)
  | _, _, _, _, _, _, .nil, _, _, _ => .nil
  | _, _, _, 0, _, _, .cons q l, e, hf, k => by
    simp at e; subst e
    exact .cons hf (l.step eb fun p hp => by
      obtain ⟨n, hn⟩ := List.getElem?_of_mem hp
      exact k p (n + 1) (by simpa using hn) (by simp))
  | _, _, _, j + 1, _, _, .cons q l, e, hf, k => .cons (q.step eb fun p hp => k p 0 (by simp [hp]) (by simp)) (FdsOk.stepBut eb (j := j) l (by simpa using e) hf fun p n hn hne => k p (n + 1) (by simpa using hn) (by omega))
/-- a value is frozen -/
theorem frzR_ok {B H : Hp} {σ : St} {env env' : Env} {ss : SS} {r : R} {v : V} {s : SA} {d : D} (S1 : SR G B σ H env ss) (R1 : RRep G σ B H ss v r s) (hm : frzR r env = .ok d env') :
    ∃ B' ss', SR G B' σ H env' ss' ∧ Fr G B' v d ∧ Kp (fun _ => True) ss ss' ∧ ∀ B0 H0 ss0, Step B0 H0 ss0 B H ss → (∀ p, some p ∈ s → H0 p = none ∨ p ∈ fl ss0) → Step B0 H0 ss0 B' H ss' := by
  cases r with
  | d x => cases hm; exact ⟨B, ss, S1, R1.2, Kp.refl _ _, fun _ _ _ st _ => st⟩
  | ins c fs => cases hm
  | lst xs =>
    cases hm
    obtain ⟨B2, d, hd, hf, e1, S2, st2⟩ := frsh_freeze S1 R1 (by intro d; simp)
    cases hd
    exact ⟨B2, ss, S2, hf, Kp.refl _ _, st2⟩
  | dic xs =>
    cases hm
    obtain ⟨B2, d, hd, hf, e1, S2, st2⟩ := frsh_freeze S1 R1 (by intro d; simp)
    cases hd
    exact ⟨B2, ss, S2, hf, Kp.refl _ _, st2⟩
  | «at» i =>
    obtain ⟨_, hv⟩ := R1
    unfold frzR at hm
    cases he : env[i]? with
    | none => simp [he] at hm
    | some o => cases o with
      | none => simp [he] at hm
      | some o =>
        obtain ⟨v', s', e1, e2, h'⟩ := S1.sl.get he
        rw [hv] at e1; cases e1
        cases o with
        | ins c fs => simp [he] at hm
        | f x =>
          obtain ⟨a, rfl, h'⟩ := h'
          cases x with
          | fz d =>
            simp only [he] at hm
            cases hm
            cases a with
            | some p => exact h'.elim
            | none => exact ⟨B, ss, S1, h', Kp.refl _ _, fun _ _ _ st _ => st⟩
          | lst xs =>
            simp only [he] at hm
            cases hm
            cases a with
            | none => exact h'.elim
            | some p =>
              obtain ⟨o, d, hp, hd, hf, q1, q2⟩ := Fr.ofOwn S1.ex h'
              cases hd
              obtain ⟨S2, st2, kp2⟩ := freeze_at (x := .f (.fz (.lst xs))) (s := [none]) S1 e2 (by simp) (by simp) hp sub_none kp_none hv ⟨none, rfl, hf⟩
              exact ⟨_, _, S2, hf, kp2, fun _ _ _ st _ => st.trans st2⟩
          | dic xs =>
            simp only [he] at hm
            cases hm
            cases a with
            | none => exact h'.elim
            | some p =>
              obtain ⟨o, d, hp, hd, hf, q1, q2⟩ := Fr.ofOwn S1.ex h'
              cases hd
              obtain ⟨S2, st2, kp2⟩ := freeze_at (x := .f (.fz (.dic xs))) (s := [none]) S1 e2 (by simp) (by simp) hp sub_none kp_none hv ⟨none, rfl, hf⟩
              exact ⟨_, _, S2, hf, kp2, fun _ _ _ st _ => st.trans st2⟩
  | fld i j =>
    obtain ⟨_, p0, q0, hv0, hq0, hj0⟩ := R1
    unfold frzR at hm
    cases he : env[i]? with
    | none => simp [he] at hm
    | some o => cases o with
      | none => simp [he] at hm
      | some o =>
        cases o with
        | f x => simp [he] at hm
        | ins c fs =>
          obtain ⟨v', s', e1, e2, p, qs, dx, vs, rfl, rfl, hb, hp, hl, hf⟩ := S1.sl.get he
          rw [e2] at hq0; cases hq0
          simp only [he] at hm
          cases hx : fs[j]? with
          | none => simp [hx] at hm
          | some x =>
            obtain ⟨w, a, g1, g2, g3⟩ := hf.get hx
            have ea : a = some p0 := by
              have z : qs[j]? = some (some p0) := by simpa using hj0
              rw [g2] at z; exact Option.some.inj z
            subst ea
            have nd0 : ((some p :: qs : SA).filterMap id).Nodup := by
              have := S1.nd
              obtain ⟨l1, l2, hl12⟩ := List.append_of_mem (List.mem_of_getElem? e2)
              rw [hl12, fl_append, fl_cons] at this
              exact (List.nodup_append.mp (List.nodup_append.mp this).2.1).1
            have hnot : some p0 ∉ (some p :: qs.set j none : SA) := by
              have key : ∀ (l : SA) (j : Nat), (l.filterMap id).Nodup → l[j]? = some (some p0) → some p0 ∉ l.set j none := by
                intro l
                induction l with
                | nil => intro j _ e; simp at e
                | cons b r ih =>
                  intro j hn e
                  cases j with
                  | zero =>
                    simp at e; subst e
                    rw [List.set_cons_zero]
                    intro q
                    rcases List.mem_cons.mp q with z | z
                    · cases z
                    · have : (p0 :: r.filterMap id).Nodup := by simpa using hn
                      exact (List.nodup_cons.mp this).1 (by simpa using z)
                  | succ j =>
                    rw [List.set_cons_succ]
                    have e' : r[j]? = some (some p0) := by simpa using e
                    have hn' : (r.filterMap id).Nodup := by
                      cases b with
                      | none => simpa using hn
                      | some c => exact (List.nodup_cons.mp (by simpa using hn)).2
                    intro q
                    rcases List.mem_cons.mp q with z | z
                    · subst z
                      have : (p0 :: r.filterMap id).Nodup := by simpa using hn
                      exact (List.nodup_cons.mp this).1 (by have := List.mem_of_getElem? e'; simpa using this)
                    · exact ih j hn' e' z
              have := key (some p :: qs) (j + 1) nd0 hj0
              simpa using this
            have hmem : some p0 ∈ (some p :: qs : SA) := List.mem_of_getElem? hj0
            have hpp : p ≠ p0 := by
              rintro rfl
              exact hnot (by simp)
            have hothers : ∀ q k, qs[k]? = some (some q) → k ≠ j → q ≠ p0 := by
              intro q k hk hne z
              subst z
              apply hnot
              have : (qs.set j none)[k]? = some (some q) := by rw [List.getElem?_set_ne (Ne.symm hne)]; exact hk
              exact List.mem_cons_of_mem _ (List.mem_of_getElem? this)
            have subset : ((some p :: qs.set j none : SA).filterMap id).Sublist ((some p :: qs : SA).filterMap id) := by
              have := sub_set_none (s := some p :: qs) (j := j + 1)
              simpa using this
            have kps : KpS (some p :: qs) (some p :: qs.set j none) := by
              have := kp_set_none (s := some p :: qs) (j := j + 1)
              simpa using this
            have wv : w = v := by
              rw [hv0]
              cases x with
              | fz d => exact g3.elim
              | lst ds => exact g3.1
              | dic ds => exact g3.1
            subst wv
            cases x with
            | fz d => exact g3.elim
            | lst xs =>
              simp only [hx] at hm
              cases hm
              obtain ⟨o, d, hpo, hd, hfr, q1, q2⟩ := Fr.ofOwn S1.ex g3
              cases hd
              obtain ⟨S2, st2, kp2⟩ := freeze_at (x := .ins c (fs.set j (.fz (.lst xs)))) (s := some p :: qs.set j none) S1 e2 hmem hnot hpo subset kps e1
                ⟨p, _, dx, vs, rfl, rfl, by rw [upd_ne hpp]; exact hb, hp, hl, hf.stepBut q1 g1 hfr fun q k hk hne => ⟨rfl, fun hbq => by rw [upd_ne (hothers q k hk hne)]; exact hbq⟩⟩
              exact ⟨_, _, S2, hfr, kp2, fun _ _ _ st _ => st.trans st2⟩
            | dic xs =>
              simp only [hx] at hm
              cases hm
              obtain ⟨o, d, hpo, hd, hfr, q1, q2⟩ := Fr.ofOwn S1.ex g3
              cases hd
              obtain ⟨S2, st2, kp2⟩ := freeze_at (x := .ins c (fs.set j (.fz (.dic xs)))) (s := some p :: qs.set j none) S1 e2 hmem hnot hpo subset kps e1
                ⟨p, _, dx, vs, rfl, rfl, by rw [upd_ne hpp]; exact hb, hp, hl, hf.stepBut q1 g1 hfr fun q k hk hne => ⟨rfl, fun hbq => by rw [upd_ne (hothers q k hk hne)]; exact hbq⟩⟩
              exact ⟨_, _, S2, hfr, kp2, fun _ _ _ st _ => st.trans st2⟩
theorem frzR_exc {r : R} {env env' : Env} {x : Exn} : frzR r env ≠ .exc x env' := by
  cases r with
  | «at» i => unfold frzR; simp only; split <;> simp
  | fld i j =>
    unfold frzR; simp only; split
    · split <;> simp
    · simp
  | _ => simp [frzR, ret, failM]
theorem frz_run {β : Type} {E : WX} {m : M R} {k : D → M β} {P : β → Env → Hp → Hp → SS → List Addr → Prop} {B H : Hp} {σ : St} {env : Env} {ss : SS} {Q : VK} (S : SR G B σ H env ss) (h : Ok G E σ B H ss (bnd (frz m) k env) P)
    (hk : ∀ d env1 v B1 H1 ss1, Step B H ss B1 H1 ss1 → Kp (fun _ => True) ss ss1 → SR G B1 σ H1 env1 ss1 → Fr G B1 v d → Ok G E σ B1 H1 ss1 (k d env1) P → Q v H1) : tE G E m σ H Q := by
  unfold frz at h
  rw [bnd_assoc] at h
  refine tE_run S h fun r env1 v s B1 H1 ss1 hm st kp S1 R1 hn h1 => ?_
  have h0 : Ok G E σ B H ss (bnd (frzR r) k env1) P := by
    have q := h
    unfold bnd at q
    rw [hm] at q
    exact q
  unfold bnd at h0
  cases hf : frzR r env1 with
  | fail => rw [hf] at h0; exact h0.elim
  | exc x e => exact absurd hf frzR_exc
  | ok d env2 =>
    rw [hf] at h0
    obtain ⟨B2, ss2, S2, fr, kp2, st2⟩ := frzR_ok S1 R1 hf
    exact hk d env2 v B2 H1 ss2 (st2 B H ss st hn) (kp.trans kp2) S2 fr (Ok.step (st2 B H ss st hn) (kp.trans kp2) h0)
end DV

set_option Elab.async false
set_option linter.all false
set_option maxRecDepth 100000
set_option maxHeartbeats 1000000
/-! DV3: statements. -/
namespace DV
open PySem L2
variable {G : Cfg}
/-- the slots at which pin holds keep their values -/
structure Pin (pin : Nat → Prop) (σ σ' : St) : Prop where
  len : σ'.length = σ.length
  at_ : ∀ i, pin i → σ'[i]? = σ[i]?
theorem Pin.refl (pin : Nat → Prop) (σ : St) : Pin pin σ σ := ⟨rfl, fun _ _ => rfl⟩
theorem Pin.trans {pin : Nat → Prop} {a b c : St} (h : Pin pin a b) (k : Pin pin b c) : Pin pin a c := ⟨k.len.trans h.len, fun i hi => (k.at_ i hi).trans (h.at_ i hi)⟩
theorem Pin.set {pin : Nat → Prop} {σ : St} {i : Nat} {v : Option V} (hp : ¬ pin i) : Pin pin σ (σ.set i v) := ⟨by simp, fun j hj => by
  have : i ≠ j := fun z => hp (z ▸ hj)
  rw [List.getElem?_set_ne this]⟩
variable (G)
/-- what a statement's result asks -/
def OkS (pin : Nat → Prop) (E : WX) (σ : St) (B H : Hp) (ss : SS) (r : Res Fl) (Z : Ends) : Prop :=
  match r with
  | .fail => False
  | .ok f env' => ∀ σ' B' H' ss', Step B H ss B' H' ss' → Kp pin ss ss' → Pin pin σ σ' → SR G B' σ' H' env' ss' →
      (match f with
        | .nx => Z.nx σ' H'
        | .bk => Z.bk σ' H'
        | .ct => Z.ct σ' H'
        | .rt o => ∀ v s, FrshOk G B' H' ss' v o s → (∀ p, some p ∈ s → H p = none ∨ p ∈ fl ss) → Z.rt v H')
  | .exc x env' => ∀ cls dx σ' B' H' ss', Step B H ss B' H' ss' → Kp pin ss ss' → Pin pin σ σ' → SR G B' σ' H' env' ss' → XRep G B' H' x cls dx → E cls dx σ' H'
def tS (pin : Nat → Prop) (E : WX) (m : M Fl) : TS := fun Z σ H => ∃ B env ss, SR G B σ H env ss ∧ OkS G pin E σ B H ss (m env) Z
variable {G}
theorem OkS.step {pin : Nat → Prop} {E : WX} {σ σ1 : St} {B H B1 H1 : Hp} {ss ss1 : SS} {r : Res Fl} {Z : Ends} (st : Step B H ss B1 H1 ss1) (kp : Kp pin ss ss1) (pn : Pin pin σ σ1) (h : OkS G pin E σ B H ss r Z) : OkS G pin E σ1 B1 H1 ss1 r Z := by
  cases r with
  | fail => exact h
  | ok f e =>
    intro σ' B' H' ss' st' kp' pn' S
    have q := h σ' B' H' ss' (st.trans st') (kp.trans kp') (pn.trans pn') S
    cases f with
    | nx => exact q
    | bk => exact q
    | ct => exact q
    | rt o =>
      intro v s hf hs
      exact q v s hf fun p hp => st.fresh (hs p hp)
  | exc x e =>
    intro cls dx σ' B' H' ss' st' kp' pn' S xr
    exact h cls dx σ' B' H' ss' (st.trans st') (kp.trans kp') (pn.trans pn') S xr
/-- an expression within a statement -/
theorem Ok.ofS {α : Type} {pin : Nat → Prop} {E : WX} {m : M α} {k : α → M Fl} {Z : Ends} {B H : Hp} {σ : St} {env : Env} {ss : SS} (h : OkS G pin E σ B H ss (bnd m k env) Z) {P' : α → Env → Hp → Hp → SS → List Addr → Prop}
    (hk : ∀ a env1 B1 H1 ss1 N, m env = .ok a env1 → Step B H ss B1 H1 ss1 → Kp (fun _ => True) ss ss1 → SR G B1 σ H1 env1 ss1 → (∀ p ∈ N, H p = none ∨ p ∈ fl ss) → OkS G pin E σ B1 H1 ss1 (k a env1) Z → P' a env1 B1 H1 ss1 N) : Ok G E σ B H ss (m env) P' := by
  unfold bnd at h
  cases hm : m env with
  | fail => rw [hm] at h; exact h
  | exc x e =>
    rw [hm] at h
    exact fun cls dx B' H' ss' st kp S xr => h cls dx σ B' H' ss' st (kp.weak fun _ _ => trivial) (Pin.refl _ _) S xr
  | ok r env1 =>
    rw [hm] at h
    intro B1 H1 ss1 N st kp S1 hN
    exact hk r env1 B1 H1 ss1 N hm st kp S1 hN (OkS.step st (kp.weak fun _ _ => trivial) (Pin.refl _ _) h)
theorem tE_runS {pin : Nat → Prop} {E : WX} {m : M R} {k : R → M Fl} {Z : Ends} {B H : Hp} {σ : St} {env : Env} {ss : SS} {Q : VK} (S : SR G B σ H env ss) (h : OkS G pin E σ B H ss (bnd m k env) Z)
    (hk : ∀ r env1 v s B1 H1 ss1, m env = .ok r env1 → Step B H ss B1 H1 ss1 → Kp (fun _ => True) ss ss1 → SR G B1 σ H1 env1 ss1 → RRep G σ B1 H1 ss1 v r s → (∀ p, some p ∈ s → H p = none ∨ p ∈ fl ss) → OkS G pin E σ B1 H1 ss1 (k r env1) Z → Q v H1) : tE G E m σ H Q :=
  ⟨B, env, ss, S, Ok.ofS h fun r env1 B1 H1 ss1 N hm st kp S1 hN h1 v s es R1 => hk r env1 v s B1 H1 ss1 hm st kp S1 R1 (fun p hp => hN p (by rw [← es]; simpa using hp)) h1⟩
theorem frz_runS {pin : Nat → Prop} {E : WX} {m : M R} {k : D → M Fl} {Z : Ends} {B H : Hp} {σ : St} {env : Env} {ss : SS} {Q : VK} (S : SR G B σ H env ss) (h : OkS G pin E σ B H ss (bnd (frz m) k env) Z)
    (hk : ∀ d env1 v B1 H1 ss1, Step B H ss B1 H1 ss1 → Kp (fun _ => True) ss ss1 → SR G B1 σ H1 env1 ss1 → Fr G B1 v d → OkS G pin E σ B1 H1 ss1 (k d env1) Z → Q v H1) : tE G E m σ H Q := by
  have h' : Ok G E σ B H ss (frz m env) fun d env1 B1 H1 ss1 _ => ∀ v, Fr G B1 v d → Q v H1 := Ok.ofS h fun d env1 B1 H1 ss1 N hm st kp S1 hN h1 v hf => hk d env1 v B1 H1 ss1 st kp S1 hf h1
  have e : frz m env = bnd (frz m) (fun d => ret d) env := by unfold bnd; cases frz m env <;> rfl
  rw [e] at h'
  refine frz_run S h' fun d env1 v B1 H1 ss1 st kp S1 hf h1 => ?_
  exact (show Ok G E σ B1 H1 ss1 (.ok d env1) _ from h1).get S1 v hf
theorem tT_runS {pin : Nat → Prop} {E : WX} {m : M Bool} {k : Bool → M Fl} {Z : Ends} {B H : Hp} {σ : St} {env : Env} {ss : SS} {Q : Bool → Hp → Prop} (S : SR G B σ H env ss) (h : OkS G pin E σ B H ss (bnd m k env) Z)
    (hk : ∀ c env1 B1 H1 ss1, SR G B1 σ H1 env1 ss1 → OkS G pin E σ B1 H1 ss1 (k c env1) Z → Q c H1) : tT G E m σ H Q :=
  ⟨B, env, ss, S, Ok.ofS h fun c env1 B1 H1 ss1 N hm st kp S1 hN h1 => hk c env1 B1 H1 ss1 S1 h1⟩
theorem OkS.get {pin : Nat → Prop} {E : WX} {σ : St} {B H : Hp} {ss : SS} {env : Env} {Z : Ends} (h : OkS G pin E σ B H ss (.ok .nx env) Z) (S : SR G B σ H env ss) : Z.nx σ H :=
  h σ B H ss (Step.refl _ _ _) (Kp.refl _ _) (Pin.refl _ _) S

section
variable {X : Cx} {pin : Nat → Prop} {E : WX} {e : Expr} {st : Stmt} {sts : List Stmt} {pos : Pos}
variable (G X pin E)
def JS (st : Stmt) (m : M Fl) : Prop := PS X st (tS G pin E m)
def JSs (sts : List Stmt) (m : M Fl) : Prop := PSs X sts (tS G pin E m)
variable {G X pin E}
theorem ps_weak {t t' : TS} (h : PS X st t) (w : ∀ Z σ H, t' Z σ H → t Z σ H) : PS X st t' := ⟨fun pins s σ H Z I q => h.run pins s σ H Z I (w Z σ H q)⟩
theorem pss_weak {t t' : TS} (h : PSs X sts t) (w : ∀ Z σ H, t' Z σ H → t Z σ H) : PSs X sts t' := ⟨fun pins s σ H Z I q => h.run pins s σ H Z I (w Z σ H q)⟩
/-! ### blocks -/
def seqM (a b : M Fl) : M Fl := bnd a fun f => match f with
  | .nx => b
  | f => ret f
theorem jss_nil : JSs G X pin E [] (ret .nx) := pss_weak pss_nil fun Z σ H ⟨B, env, ss, S, h⟩ => (show OkS G pin E σ B H ss (.ok .nx env) Z from h).get S
theorem jss_cons {a b : M Fl} (h1 : JS G X pin E st a) (h2 : JSs G X pin E sts b) : JSs G X pin E (st :: sts) (seqM a b) := by
  refine pss_weak (pss_cons h1 h2) fun Z σ H ⟨B, env, ss, S, h⟩ => ⟨B, env, ss, S, ?_⟩
  unfold seqM bnd at h
  cases hm : a env with
  | fail => rw [hm] at h; exact h
  | exc x e => rw [hm] at h; exact h
  | ok f env1 =>
    rw [hm] at h
    intro σ' B' H' ss' st kp pn S'
    cases f with
    | nx => exact ⟨B', env1, ss', S', OkS.step st kp pn h⟩
    | bk => exact h σ' B' H' ss' st kp pn S'
    | ct => exact h σ' B' H' ss' st kp pn S'
    | rt o => exact h σ' B' H' ss' st kp pn S'
theorem jss_one {a : M Fl} (h1 : JS G X pin E st a) : JSs G X pin E [st] a := pss_one h1
theorem js_pass : JS G X pin E (.Pass pos) (ret .nx) := ps_weak ps_pass fun Z σ H ⟨B, env, ss, S, h⟩ => (show OkS G pin E σ B H ss (.ok .nx env) Z from h).get S
theorem js_break : JS G X pin E (.Break pos) (ret .bk) := ps_weak ps_break fun Z σ H ⟨B, env, ss, S, h⟩ => (show OkS G pin E σ B H ss (.ok .bk env) Z from h) σ B H ss (Step.refl _ _ _) (Kp.refl _ _) (Pin.refl _ _) S
theorem js_continue : JS G X pin E (.Continue pos) (ret .ct) := ps_weak ps_continue fun Z σ H ⟨B, env, ss, S, h⟩ => (show OkS G pin E σ B H ss (.ok .ct env) Z from h) σ B H ss (Step.refl _ _ _) (Kp.refl _ _) (Pin.refl _ _) S
theorem js_expr {m : M R} (he : JE G X E e m) (hs : swapsWith e none pos.line X.env = pure false := by rfl) : JS G X pin E (.Expr e pos) (bnd m fun _ => ret .nx) := by
  refine ps_weak (ps_expr he hs) fun Z σ H ⟨B, env, ss, S, h⟩ => ?_
  refine tE_runS S h fun r env1 v s B1 H1 ss1 hm st kp S1 R1 hn h1 => ?_
  exact (show OkS G pin E σ B1 H1 ss1 (.ok .nx env1) Z from h1).get S1
theorem js_if {c : Expr} {a b : List Stmt} {mc : M Bool} {ma mb : M Fl} (hc : JT G X E c mc) (ha : JSs G X pin E a ma) (hb : JSs G X pin E b mb) : JS G X pin E (.If c a b pos) (ifM mc ma mb) := by
  refine ps_weak (ps_if hc ha hb) fun Z σ H ⟨B, env, ss, S, h⟩ => ?_
  refine tT_runS S h fun c env1 B1 H1 ss1 S1 h1 => ?_
  cases c with
  | true => exact ⟨B1, env1, ss1, S1, h1⟩
  | false => exact ⟨B1, env1, ss1, S1, h1⟩
theorem js_never {m : M Fl} (h : ∀ e, m e = .fail) : JS G X pin E st m := ps_weak ps_never fun Z σ H ⟨B, env, ss, S, q⟩ => by rw [h] at q; exact q
/-! ### return -/
def retM (m : M R) : M Fl := bnd m fun r => match r with
  | .lst xs => ret (.rt (.f (.lst xs)))
  | .dic xs => ret (.rt (.f (.dic xs)))
  | .ins c fs => ret (.rt (.ins c fs))
  | r => bnd (frzR r) fun d => ret (.rt (.f (.fz d)))
theorem js_ret {m : M R} (he : JE G X E e m) : JS G X pin E (.Return (some e) pos) (retM m) := by
  refine ps_weak (ps_ret he) fun Z σ H ⟨B, env, ss, S, h⟩ => ?_
  unfold retM at h
  refine tE_runS S h fun r env1 v s B1 H1 ss1 hm st kp S1 R1 hn h1 => ?_
  have h0 := h
  unfold bnd at h0
  rw [hm] at h0
  have fin : ∀ {o : O} {s' : SA}, OkS G pin E σ B H ss (.ok (.rt o) env1) Z → FrshOk G B1 H1 ss1 v o s' → (∀ p, some p ∈ s' → H p = none ∨ p ∈ fl ss) → Z.rt v H1 := by
    intro o s' q hf hn
    exact q σ B1 H1 ss1 st (kp.weak fun _ _ => trivial) (Pin.refl _ _) S1 v s' hf hn
  have fz : OkS G pin E σ B H ss (bnd (frzR r) (fun d => ret (.rt (.f (.fz d)))) env1) Z → Z.rt v H1 := by
    intro q
    unfold bnd at q
    cases hf : frzR r env1 with
    | fail => rw [hf] at q; exact q.elim
    | exc x e => exact absurd hf frzR_exc
    | ok d env2 =>
      rw [hf] at q
      obtain ⟨B2, ss2, S2, fr, kp2, st2⟩ := frzR_ok S1 R1 hf
      exact q σ B2 H1 ss2 (st2 B H ss st hn) ((kp.trans kp2).weak fun _ _ => trivial) (Pin.refl _ _) S2 v [none] ⟨⟨none, rfl, fr⟩, by simp, by simp⟩ (by simp)
  cases r with
  | lst xs => exact fin h0 R1 hn
  | dic xs => exact fin h0 R1 hn
  | ins c fs => exact fin h0 R1 hn
  | d x => exact fz h0
  | «at» i => exact fz h0
  | fld i j => exact fz h0
theorem js_retN : JS G X pin E (.Return none pos) (ret (.rt (.f (.fz .non)))) := ps_weak ps_retN fun Z σ H ⟨B, env, ss, S, h⟩ =>
  (show OkS G pin E σ B H ss (.ok (.rt (.f (.fz .non))) env) Z from h) σ B H ss (Step.refl _ _ _) (Kp.refl _ _) (Pin.refl _ _) S .non [none] ⟨⟨none, rfl, .non⟩, by simp, by simp⟩ (by simp)
/-! ### a name is stored -/
/-- what r is put into slot i -/
def setR (i : Nat) (r : R) : M Unit := match r with
  | .d x => fun env => .ok () (env.set i (some (.f (.fz x))))
  | .lst xs => fun env => .ok () (env.set i (some (.f (.lst xs))))
  | .dic xs => fun env => .ok () (env.set i (some (.f (.dic xs))))
  | .ins c fs => fun env => .ok () (env.set i (some (.ins c fs)))
  | r => bnd (frzR r) fun d env => .ok () (env.set i (some (.f (.fz d))))
theorem setR_exc {i : Nat} {r : R} {env env' : Env} {x : Exn} : setR i r env ≠ .exc x env' := by
  cases r with
  | «at» k => 
    unfold setR bnd
    cases h : frzR (.at k) env with
    | exc x e => exact absurd h frzR_exc
    | fail => intro z; simp only [h] at z; cases z
    | ok d e => intro z; simp only [h] at z; cases z
  | fld k j => 
    unfold setR bnd
    cases h : frzR (.fld k j) env with
    | exc x e => exact absurd h frzR_exc
    | fail => intro z; simp only [h] at z; cases z
    | ok d e => intro z; simp only [h] at z; cases z
  | _ => simp [setR]
/-- a new thing of ours goes into a slot -/
theorem SR.put {B H : Hp} {σ : St} {env : Env} {ss : SS} {i : Nat} {v : V} {o : O} {s : SA} (S : SR G B σ H env ss) (h : FrshOk G B H ss v o s) : SR G B (σ.set i (some v)) H (env.set i (some o)) (ss.set i s) :=
  ⟨S.ex, SlsOk.set (v := some v) (o := some o) h.1 S.sl, nodup_fl_set S.nd h.2.2 h.2.1⟩
theorem kp_pin {ss : SS} {i : Nat} {s : SA} {pin : Nat → Prop} (hp : ¬ pin i) : Kp pin ss (ss.set i s) := fun j hj sj ej => by
  have : i ≠ j := fun z => hp (z ▸ hj)
  exact ⟨sj, by rw [List.getElem?_set_ne this]; exact ej, KpS.refl _⟩
theorem setR_ok {B H : Hp} {σ : St} {env env' : Env} {ss : SS} {r : R} {v : V} {s : SA} {i : Nat} {u : Unit} (S1 : SR G B σ H env ss) (R1 : RRep G σ B H ss v r s) (hm : setR i r env = .ok u env') (hp : ¬ pin i) :
    ∃ B' ss', SR G B' (σ.set i (some v)) H env' ss' ∧ Kp pin ss ss' ∧ ∀ B0 H0 ss0, Step B0 H0 ss0 B H ss → (∀ p, some p ∈ s → H0 p = none ∨ p ∈ fl ss0) → Step B0 H0 ss0 B' H ss' := by
  have fresh : ∀ {o : O} {s : SA} {B : Hp} {env : Env} {ss : SS} , SR G B σ H env ss → FrshOk G B H ss v o s → SR G B (σ.set i (some v)) H (env.set i (some o)) (ss.set i s) ∧ Kp pin ss (ss.set i s) ∧ ∀ B0 H0 ss0, Step B0 H0 ss0 B H ss → (∀ p, some p ∈ s → H0 p = none ∨ p ∈ fl ss0) → Step B0 H0 ss0 B H (ss.set i s) := by
    intro o s B env ss S h
    refine ⟨S.put h, kp_pin hp, fun B0 H0 ss0 st hn => ⟨st.eb, st.fr, st.bn, fun a ha => ?_, st.kp⟩⟩
    rcases mem_fl_set ha with q | q
    · exact (hn a q).symm
    · exact st.nw a q
  have frz : ∀ {env'}, (bnd (frzR r) fun d env => Res.ok () (env.set i (some (.f (.fz d))))) env = .ok u env' → ∃ B' ss', SR G B' (σ.set i (some v)) H env' ss' ∧ Kp pin ss ss' ∧ ∀ B0 H0 ss0, Step B0 H0 ss0 B H ss → (∀ p, some p ∈ s → H0 p = none ∨ p ∈ fl ss0) → Step B0 H0 ss0 B' H ss' := by
    intro env' hm
    unfold bnd at hm
    cases hf : frzR r env with
    | fail => simp [hf] at hm
    | exc x e => exact absurd hf frzR_exc
    | ok d env2 =>
      simp only [hf] at hm
      cases hm
      obtain ⟨B2, ss2, S2, fr, kp2, st2⟩ := frzR_ok S1 R1 hf
      obtain ⟨q1, q2, q3⟩ := fresh (o := .f (.fz d)) (s := [none]) S2 ⟨⟨none, rfl, fr⟩, by simp, by simp⟩
      exact ⟨B2, _, q1, (kp2.weak fun _ _ => trivial).trans q2, fun B0 H0 ss0 st hn => q3 B0 H0 ss0 (st2 B0 H0 ss0 st hn) (by simp)⟩
  cases r with
  | d x =>
    cases hm
    obtain ⟨q1, q2, q3⟩ := fresh (o := .f (.fz x)) (s := [none]) S1 ⟨⟨none, rfl, R1.2⟩, by simp, by simp⟩
    exact ⟨B, _, q1, q2, fun B0 H0 ss0 st hn => q3 B0 H0 ss0 st (by simp)⟩
  | lst xs => cases hm; obtain ⟨q1, q2, q3⟩ := fresh S1 R1; exact ⟨B, _, q1, q2, q3⟩
  | dic xs => cases hm; obtain ⟨q1, q2, q3⟩ := fresh S1 R1; exact ⟨B, _, q1, q2, q3⟩
  | ins c fs => cases hm; obtain ⟨q1, q2, q3⟩ := fresh S1 R1; exact ⟨B, _, q1, q2, q3⟩
  | «at» k => exact frz hm
  | fld k j => exact frz hm
def asgM (i : Nat) (m : M R) : M Fl := bnd m fun r => bnd (setR i r) fun _ => ret .nx
theorem tAsg_of {m : M R} {te : TE} {i : Nat} {Z : Ends} {σ : St} {H : Hp} (w : ∀ Q, tE G E m σ H Q → te σ H Q) (hp : ¬ pin i) (h : tS G pin E (asgM i m) Z σ H) : tAsg te (gName i) Z σ H := by
  obtain ⟨B, env, ss, S, h⟩ := h
  refine w _ ?_
  unfold asgM at h
  refine tE_runS S h fun r env1 v s B1 H1 ss1 hm st kp S1 R1 hn h1 => ?_
  have h0 := h
  unfold bnd at h0
  rw [hm] at h0
  cases hf : setR i r env1 with
  | fail => simp only [hf] at h0; exact h0.elim
  | exc x e => exact absurd hf setR_exc
  | ok u env2 =>
    simp only [hf] at h0
    obtain ⟨B2, ss2, S2, kp2, st2⟩ := setR_ok (pin := pin) S1 R1 hf hp
    refine h0 (σ.set i (some v)) B2 H1 ss2 (st2 B H ss st hn) ((kp.weak fun _ _ => trivial).trans kp2) (Pin.set hp) S2
theorem js_asg (i : Nat) {x : Str} {m : M R} {pos' : Pos} (hN : X.N.Nodup) (he : JE G X E e m) (hp : ¬ pin i := by decide) (hi : X.N[i]? = some x := by rfl) (hx : Loc X.env.scope x := by first | exact Or.inl rfl | exact Or.inr rfl)
    (hs : swapsWith e (some (.Name x pos')) pos.line X.env = pure false := by rfl) (hf : X.fn x = true ∨ X.env.scope.names.lookup x = some .local := by first | exact .inl rfl | exact .inr rfl | assumption) : JS G X pin E (.Assign [.Name x pos'] e pos) (asgM i m) :=
  ps_weak (ps_set hN hi hx he hs hf) fun Z σ H h => tAsg_of (fun _ q => q) hp h
end
end DV

set_option Elab.async false
set_option linter.all false
set_option maxRecDepth 100000
set_option maxHeartbeats 1000000
/-! DV4: loops. -/
namespace DV
open PySem L2
variable {G : Cfg}
def loopK (k : M Fl) : Fl → M Fl
  | .nx => k
  | .ct => k
  | .bk => ret .nx
  | .rt o => ret (.rt o)
def whileM (c : M Bool) (b : M Fl) : Nat → M Fl
  | 0 => failM
  | n + 1 => bnd c fun t => if t = true then bnd b (loopK (whileM c b n)) else ret .nx
/-- a loop's body -/
theorem OkS_body {pin : Nat → Prop} {E : WX} {b k : M Fl} {Z : Ends} {N : St → Hp → Prop} {σ : St} {B H : Hp} {env : Env} {ss : SS} (h : OkS G pin E σ B H ss (bnd b (loopK k) env) Z)
    (hN : ∀ σ' B' H' env' ss', Step B H ss B' H' ss' → Kp pin ss ss' → Pin pin σ σ' → SR G B' σ' H' env' ss' → OkS G pin E σ' B' H' ss' (k env') Z → N σ' H') : OkS G pin E σ B H ss (b env) { Z with nx := N, ct := N, bk := Z.nx } := by
  unfold bnd at h
  cases hm : b env with
  | fail => rw [hm] at h; exact h
  | exc x e => rw [hm] at h; exact h
  | ok f env1 =>
    rw [hm] at h
    intro σ' B' H' ss' st kp pn S
    cases f with
    | nx => exact hN σ' B' H' env1 ss' st kp pn S (OkS.step st kp pn h)
    | ct => exact hN σ' B' H' env1 ss' st kp pn S (OkS.step st kp pn h)
    | bk => exact h σ' B' H' ss' st kp pn S
    | rt o => exact h σ' B' H' ss' st kp pn S
section
variable {X : Cx} {pin : Nat → Prop} {E : WX} {e : Expr} {st : Stmt} {sts : List Stmt} {pos : Pos}
theorem js_while (n : Nat) {c : Expr} {body : List Stmt} {mc : M Bool} {mb : M Fl} (hp : PassesOwn (model X.prog X.w) X.A X.env X.xe) (hc : JT G X E c mc) (hb : JSs G X pin E body mb) : JS G X pin E (.While c body [] pos) (whileM mc mb n) := by
  refine ps_weak (ps_while hp hc hb) fun Z σ H h => ⟨fun m σ' H' => tS G pin E (whileM mc mb m) Z σ' H', ⟨n, h⟩, fun m σ' H' ⟨B, env, ss, S, h⟩ => ?_⟩
  cases m with
  | zero => exact h.elim
  | succ m =>
    unfold whileM at h
    refine tT_runS S h fun t env1 B1 H1 ss1 S1 h1 => ?_
    cases t with
    | false => exact (show OkS G pin E σ' B1 H1 ss1 (.ok .nx env1) Z from h1).get S1
    | true =>
      refine ⟨fun σ2 H2 => tS G pin E (whileM mc mb m) Z σ2 H2, fun _ _ q => ⟨m, Nat.lt_succ_self m, q⟩, B1, env1, ss1, S1, ?_⟩
      exact OkS_body h1 fun σ2 B2 H2 env2 ss2 _ _ _ S2 h2 => ⟨B2, env2, ss2, S2, h2⟩

/-! ### targets -/
abbrev Tg := D → Env → Option Env
abbrev Tgs := List D → Env → Option Env
variable (G)
def OkG (pin : Nat → Prop) (σ : St) (B H : Hp) (ss : SS) (r : Option Env) (Q : St → Hp → Prop) : Prop :=
  ∃ env', r = some env' ∧ ∀ σ' B' H' ss', Step B H ss B' H' ss' → Kp pin ss ss' → Pin pin σ σ' → SR G B' σ' H' env' ss' → Q σ' H'
def tG (pin : Nat → Prop) (t : Tg) : TG := fun v σ H Q => ∃ B env ss d, SR G B σ H env ss ∧ Fr G B v d ∧ OkG G pin σ B H ss (t d env) Q
def tGs (pin : Nat → Prop) (t : Tgs) : TGs := fun vs σ H Q => ∃ B env ss ds, SR G B σ H env ss ∧ FrL G B vs ds ∧ OkG G pin σ B H ss (t ds env) Q
def JG (X : Cx) (pin : Nat → Prop) (e : Expr) (t : Tg) : Prop := PG X e (tG G pin t)
def JGs (X : Cx) (pin : Nat → Prop) (es : List Expr) (t : Tgs) : Prop := PGs X es (tGs G pin t)
variable {G}
theorem OkG.step {σ σ1 : St} {B H B1 H1 : Hp} {ss ss1 : SS} {r : Option Env} {Q : St → Hp → Prop} (st : Step B H ss B1 H1 ss1) (kp : Kp pin ss ss1) (pn : Pin pin σ σ1) (h : OkG G pin σ B H ss r Q) : OkG G pin σ1 B1 H1 ss1 r Q := by
  obtain ⟨e, he, h⟩ := h
  exact ⟨e, he, fun σ' B' H' ss' st' kp' pn' S => h σ' B' H' ss' (st.trans st') (kp.trans kp') (pn.trans pn') S⟩
theorem pg_weak {tg : Expr} {t t' : TG} (h : PG X tg t) (w : ∀ v σ H Q, t' v σ H Q → t v σ H Q) : PG X tg t' := ⟨fun pins s σ H v u Q I r q => h.run pins s σ H v u Q I r (w v σ H Q q)⟩
theorem pgs_weak {tg : List Expr} {t t' : TGs} (h : PGs X tg t) (w : ∀ v σ H Q, t' v σ H Q → t v σ H Q) : PGs X tg t' := ⟨fun pins s σ H v u Q I r q => h.run pins s σ H v u Q I r (w v σ H Q q)⟩
def stD (i : Nat) : Tg := fun d env => some (env.set i (some (.f (.fz d))))
theorem jg_name (i : Nat) {x : Str} (hN : X.N.Nodup) (hp : ¬ pin i := by decide) (hi : X.N[i]? = some x := by rfl) (hx : Loc X.env.scope x := by first | exact Or.inl rfl | exact Or.inr rfl) (hf : X.fn x = true ∨ X.env.scope.names.lookup x = some .local := by first | exact .inl rfl | exact .inr rfl | assumption) : JG G X pin (.Name x pos) (stD i) := by
  refine pg_weak (pg_name hN hi hx hf) fun v σ H Q ⟨B, env, ss, d, S, f, env', he, h⟩ => ?_
  cases he
  have fo : FrshOk G B H ss v (.f (.fz d)) [none] := ⟨⟨none, rfl, f⟩, by simp, by simp⟩
  refine h (σ.set i (some v)) B H (ss.set i [none]) ⟨Ex.refl _, fun _ _ h _ => h, fun _ _ _ h _ => h, fun a ha => ?_, fun _ h => h⟩ (kp_pin hp) (Pin.set hp) (S.put fo)
  rcases mem_fl_set ha with q | q
  · simp at q
  · exact .inl q
def stNil : Tgs := fun ds env => match ds with
  | [] => some env
  | _ => none
def stCons (t : Tg) (u : Tgs) : Tgs := fun ds env => match ds with
  | [] => none
  | d :: r => (t d env).bind (u r)
def stTup (n : Nat) (u : Tgs) : Tg := fun d env => match d with
  | .tup ds => if ds.length = n then u ds env else none
  | _ => none
theorem jgs_nil : JGs G X pin [] stNil := pgs_weak pgs_nil fun vs σ H Q ⟨B, env, ss, ds, S, f, env', he, h⟩ => by
  cases f with
  | nil => cases he; exact ⟨rfl, h σ B H ss (Step.refl _ _ _) (Kp.refl _ _) (Pin.refl _ _) S⟩
  | cons _ _ => cases he
theorem jgs_cons {es : List Expr} {t : Tg} {u : Tgs} (h1 : JG G X pin e t) (h2 : JGs G X pin es u) (hs : (assignEach (e :: es) X.env).map (·.2) = assign e X.env :: (assignEach es X.env).map (·.2) := by rfl) : JGs G X pin (e :: es) (stCons t u) := by
  refine pgs_weak (pgs_cons h1 h2 hs) fun vs σ H Q ⟨B, env, ss, ds, S, f, env', he, h⟩ => ?_
  cases f with
  | nil => cases he
  | @cons v d vs ds f l =>
    simp only [stCons] at he
    cases hm : t d env with
    | none => rw [hm] at he; cases he
    | some env1 =>
      rw [hm] at he
      exact ⟨v, vs, rfl, B, env, ss, d, S, f, env1, hm, fun σ' B' H' ss' st kp pn S' => ⟨B', env1, ss', ds, S', l.mono st.eb, OkG.step st kp pn ⟨env', he, h⟩⟩⟩
theorem jg_tup {es : List Expr} {k : Nat} {u : Tgs} (n : Nat) (hc : X.calm = true) (h : JGs G X pin es u) (hn : (assignEach es X.env).length = n := by rfl) (hst : (assignEach es X.env).findIdx? (·.1) = none := by rfl) : JG G X pin (.Tuple es k pos) (stTup n u) := by
  refine pg_weak (pg_tup hc h hn hst) fun v σ H Q ⟨B, env, ss, d, S, f, env', he, h⟩ => ?_
  cases f with
  | @tup p vs ds hp l =>
    simp only [stTup] at he
    by_cases hl : ds.length = n
    · rw [if_pos hl] at he
      exact ⟨p, vs, rfl, SqT.of (S.ex _ _ hp), l.length.trans hl, B, env, ss, ds, S, l, env', he, h⟩
    · rw [if_neg hl] at he; cases he
  | _ => cases he

/-! ### what is walked -/
variable (G)
def ItOk (B : Hp) (J : It) (ds : List D) : Prop := ∀ i H', Ex B H' → (i < ds.length → J.go i H') ∧ (ds.length ≤ i → J.stop i H') ∧
  ∀ v H'', J.yld i H' v H'' → ∀ d, ds[i]? = some d → ∀ B', Ex B B' → Ex B' H' → ∃ B'', Grow B' H' B'' H'' ∧ Fr G B'' v d
def tI (E : WX) (m : M (List D)) : TI := fun σ H R => ∃ B env ss, SR G B σ H env ss ∧ Ok G E σ B H ss (m env) fun ds _ B' H' _ _ => ∀ J, ItOk G B' J ds → R J H'
def JI (X : Cx) (E : WX) (tg iter : Expr) (m : M (List D)) : Prop := PI X tg iter (tI G E m)
variable {G}
def forM (t : Tg) (b : M Fl) : List D → M Fl
  | [] => ret .nx
  | d :: r => fun env => match t d env with
    | some env' => bnd b (loopK (forM t b r)) env'
    | none => .fail
theorem js_for {tg iter : Expr} {body : List Stmt} {mi : M (List D)} {t : Tg} {mb : M Fl} (hp : PassesOwn (model X.prog X.w) X.A X.env X.xe) (hc : X.calm = true) (hi : JI G X E tg iter mi) (hg : JG G X pin tg t) (hb : JSs G X pin E body mb)
    (hs : ∀ x, foldedSetIterable iter X.env x = pure x := by intro _; rfl) : JS G X pin E (.For tg iter body [] pos) (bnd mi (forM t mb)) := by
  refine ps_weak (ps_for hp hc hi hg hb hs) fun Z σ H ⟨B, env, ss, S, h⟩ => ⟨B, env, ss, S, Ok.ofS h fun ds env1 B1 H1 ss1 N hm st kp S1 hN h1 J hJ => ?_⟩
  refine ⟨fun i m σ' H' => m + i = ds.length ∧ ∃ B' env' ss', Ex B1 B' ∧ SR G B' σ' H' env' ss' ∧ OkS G pin E σ' B' H' ss' (forM t mb (ds.drop i) env') Z, ⟨ds.length, by simp, B1, env1, ss1, Ex.refl _, S1, by simpa using h1⟩, fun i m σ' H' ⟨hmi, B', env', ss', e1, S', h'⟩ => ?_⟩
  obtain ⟨g1, g2, g3⟩ := hJ i H' (e1.trans S'.ex)
  by_cases hlt : i < ds.length
  · right
    refine ⟨g1 hlt, fun σ2 H2 => ∃ B2 env2 ss2, Ex B1 B2 ∧ SR G B2 σ2 H2 env2 ss2 ∧ OkS G pin E σ2 B2 H2 ss2 (forM t mb (ds.drop (i + 1)) env2) Z, fun σ2 H2 q => ⟨m - 1, by omega, by omega, q⟩, fun v H'' hy => ?_⟩
    have hd : ds[i]? = some ds[i] := List.getElem?_eq_getElem hlt
    obtain ⟨B'', gr, hf⟩ := g3 v H'' hy _ hd B' e1 S'.ex
    obtain ⟨S'', st''⟩ := S'.grow gr.eb gr.eh gr.ex gr.bn
    rw [List.drop_eq_getElem_cons hlt] at h'
    unfold forM at h'
    have h2 := OkS.step st'' (Kp.refl pin _) (Pin.refl _ _) h'
    cases hm2 : t ds[i] env' with
    | none => rw [hm2] at h2; exact h2.elim
    | some env2 =>
      rw [hm2] at h2
      refine ⟨B'', env', ss', ds[i], S'', hf, env2, hm2, fun σ3 B3 H3 ss3 st3 kp3 pn3 S3 => ⟨B3, env2, ss3, S3, OkS_body (OkS.step st3 kp3 pn3 h2) fun σ4 B4 H4 env4 ss4 st4 kp4 pn4 S4 h4 => ⟨B4, env4, ss4, ((e1.trans gr.eb).trans st3.eb).trans st4.eb, S4, h4⟩⟩⟩
  · left
    refine ⟨g2 (by omega), ?_⟩
    rw [List.drop_eq_nil_of_le (by omega)] at h'
    exact (show OkS G pin E σ' B' H' ss' (.ok .nx env') Z from h').get S'
end
end DV

set_option Elab.async false
set_option linter.all false
set_option maxRecDepth 100000
set_option maxHeartbeats 1000000
/-! DV5: what is walked; comprehensions; displays. -/
namespace DV
open PySem L2
variable {G : Cfg}
theorem lim_lt {n : Nat} (h : n < 100000) : n < sizeLine := Nat.lt_of_lt_of_le h (by decide)
theorem lim_le {n : Nat} (h : n < 100000) : n ≤ sizeLine := Nat.le_of_lt (lim_lt h)
/-! ### where the result is known ahead -/
theorem tE_ok {E : WX} {m : M R} {r : R} {env env1 : Env} {B H : Hp} {σ : St} {ss : SS} {Q : VK} (S : SR G B σ H env ss) (hm : m env = .ok r env1)
    (hk : ∀ v s B1 H1 ss1, Step B H ss B1 H1 ss1 → Kp (fun _ => True) ss ss1 → SR G B1 σ H1 env1 ss1 → RRep G σ B1 H1 ss1 v r s → (∀ p, some p ∈ s → H p = none ∨ p ∈ fl ss) → Q v H1) : tE G E m σ H Q :=
  ⟨B, env, ss, S, by
    rw [hm]
    exact fun B1 H1 ss1 N st kp S1 hN v s es R1 => hk v s B1 H1 ss1 st kp S1 R1 (fun p hp => hN p (by rw [← es]; simpa using hp))⟩
theorem frz_ok {E : WX} {m : M R} {d : D} {env env1 : Env} {B H : Hp} {σ : St} {ss : SS} {Q : VK} (S : SR G B σ H env ss) (hm : frz m env = .ok d env1)
    (hk : ∀ v B1 H1 ss1, Step B H ss B1 H1 ss1 → Kp (fun _ => True) ss ss1 → SR G B1 σ H1 env1 ss1 → Fr G B1 v d → Q v H1) : tE G E m σ H Q := by
  unfold frz bnd at hm
  cases h1 : m env with
  | fail => rw [h1] at hm; cases hm
  | exc x e => rw [h1] at hm; cases hm
  | ok r env2 =>
    rw [h1] at hm
    refine tE_ok S h1 fun v s B1 H1 ss1 st kp S1 R1 hn => ?_
    obtain ⟨B2, ss2, S2, fr, kp2, st2⟩ := frzR_ok S1 R1 hm
    exact hk v B2 H1 ss2 (st2 B H ss st hn) (kp.trans kp2) S2 fr
theorem tT_ok {E : WX} {m : M Bool} {b : Bool} {env env1 : Env} {B H : Hp} {σ : St} {ss : SS} {Q : Bool → Hp → Prop} (S : SR G B σ H env ss) (hm : m env = .ok b env1)
    (hk : ∀ B1 H1 ss1, Step B H ss B1 H1 ss1 → Kp (fun _ => True) ss ss1 → SR G B1 σ H1 env1 ss1 → Q b H1) : tT G E m σ H Q :=
  ⟨B, env, ss, S, by rw [hm]; exact fun B1 H1 ss1 N st kp S1 hN => hk B1 H1 ss1 st kp S1⟩
/-- where it fails or raises, what is asked is told by the result alone -/
theorem tE_bad {E : WX} {m : M R} {β : Type} {k : R → M β} {P : β → Env → Hp → Hp → SS → List Addr → Prop} {env : Env} {B H : Hp} {σ : St} {ss : SS} {Q : VK} (S : SR G B σ H env ss) (h : Ok G E σ B H ss (bnd m k env) P) (hm : ∀ r e, m env ≠ .ok r e) : tE G E m σ H Q :=
  tE_run S h fun r env1 v s B1 H1 ss1 e _ _ _ _ _ _ => absurd e (hm r env1)

/-! ### walked: a list, a tuple, a text -/
def itV (m : M R) : M (List D) := bnd (frz m) fun d => match d with
  | .lst xs => ret xs
  | .tup xs => ret xs
  | .wtup xs => ret xs
  | .str s => ret (s.map fun c => .str [c])
  | _ => failM
theorem itOk_list {B : Hp} {p : Addr} {vs : List V} {ds : List D} {K : PySem.W.Frag} (hp : B p = some (.lst vs)) (l : FrL G B vs ds) : ItOk G B (Itl K p) ds := fun i H' e => by
  have hq : SqL K H' p vs := SqL.of (e _ _ hp)
  refine ⟨fun hi => ?_, fun hi => ⟨vs, hq, by rw [l.length]; exact hi⟩, fun v H'' hy d hd B' eb e' => ?_⟩
  · have hv : i < vs.length := by rw [l.length]; exact hi
    exact ⟨vs, vs[i], hq, List.getElem?_eq_getElem hv⟩
  · obtain ⟨rfl, hx⟩ := hy
    obtain ⟨v', h1, h2⟩ := l.get hd
    have := hx vs hq
    rw [h1] at this; cases this
    exact ⟨B', Grow.refl e', h2.mono eb⟩
theorem itOk_tup {B : Hp} {p : Addr} {vs : List V} {ds : List D} {K : PySem.W.Frag} (hp : ∀ H', Ex B H' → SqT K H' p vs) (l : FrL G B vs ds) : ItOk G B (Itt K p) ds := fun i H' e => by
  have hq : SqT K H' p vs := hp H' e
  refine ⟨fun hi => ?_, fun hi => ⟨vs, hq, by rw [l.length]; exact hi⟩, fun v H'' hy d hd B' eb e' => ?_⟩
  · have hv : i < vs.length := by rw [l.length]; exact hi
    exact ⟨vs, vs[i], hq, List.getElem?_eq_getElem hv⟩
  · obtain ⟨rfl, hx⟩ := hy
    obtain ⟨v', h1, h2⟩ := l.get hd
    have := hx vs hq
    rw [h1] at this; cases this
    exact ⟨B', Grow.refl e', h2.mono eb⟩
theorem itOk_str {B : Hp} {s : List Nat} : ItOk G B (Its ⟨s.toArray⟩) (s.map fun c => .str [c]) := fun i H' e => by
  refine ⟨fun hi => by simpa [Its] using hi, fun hi => by simpa [Its] using hi, fun v H'' hy d hd B' eb e' => ?_⟩
  obtain ⟨rfl, c, hc, rfl⟩ := hy
  have : s[i]? = some c := by simpa using hc
  rw [List.getElem?_map, this] at hd
  cases hd
  exact ⟨B', Grow.refl e', .str [c]⟩
section
variable {X : Cx} {pin : Nat → Prop} {E : WX} {e : Expr} {es : List Expr} {pos : Pos} {tg : Expr}
theorem pi_or {w1 w2 : TI} (h1 : PI X tg e w1) (h2 : PI X tg e w2) : PI X tg e fun σ H R => w1 σ H R ∨ w2 σ H R :=
  ⟨fun pins s σ H R I q => q.elim (h1.run pins s σ H R I) (h2.run pins s σ H R I)⟩
theorem pi_weak {w w' : TI} (h : PI X tg e w) (k : ∀ σ H R, w' σ H R → w σ H R) : PI X tg e w' := ⟨fun pins s σ H R I q => h.run pins s σ H R I (k σ H R q)⟩
theorem ji_val {m : M R} (hK : X.K = G.K) (he : JE G X E e m) : JI G X E tg e (itV m) := by
  refine pi_weak (pi_or (pi_list he) (pi_or (pi_tup he) (pi_str he))) fun σ H R ⟨B, env, ss, S, h⟩ => ?_
  unfold itV at h
  cases hd : frz m env with
  | fail => unfold bnd at h; rw [hd] at h; exact h.elim
  | exc x e =>
    left
    have h' : Ok G E σ B H ss (bnd (frz m) (fun d => ret d) env) fun _ _ _ _ _ _ => True := by
      unfold bnd at h ⊢
      rw [hd] at h ⊢
      exact h
    unfold frz at h' hd
    rw [bnd_assoc] at h'
    refine tE_run S h' fun r env1 v s B1 H1 ss1 hm st kp S1 R1 hn _ => ?_
    unfold bnd at hd
    rw [hm] at hd
    exact absurd hd frzR_exc
  | ok d env1 =>
    unfold bnd at h
    rw [hd] at h
    cases d with
    | lst xs =>
      left
      refine frz_ok S hd fun v B1 H1 ss1 st kp S1 f => ?_
      cases f with
      | lst hp l => exact ⟨_, rfl, ⟨_, SqL.of (S1.ex _ _ hp)⟩, h B1 H1 ss1 [] st kp S1 (by simp) _ (itOk_list hp l)⟩
    | tup xs =>
      right; left
      refine frz_ok S hd fun v B1 H1 ss1 st kp S1 f => ?_
      cases f with
      | tup hp l => exact ⟨_, rfl, ⟨_, SqT.of (S1.ex _ _ hp)⟩, h B1 H1 ss1 [] st kp S1 (by simp) _ (itOk_tup (fun H' e => SqT.of (e _ _ hp)) l)⟩
    | wtup xs =>
      right; left
      refine frz_ok S hd fun v B1 H1 ss1 st kp S1 f => ?_
      cases f with
      | wtup hw l =>
        have q : ∀ H', Ex B1 H' → SqT X.K H' _ _ := fun H' e => by rw [hK]; exact (hw.mono e).seq
        exact ⟨_, rfl, ⟨_, q H1 S1.ex⟩, h B1 H1 ss1 [] st kp S1 (by simp) _ (itOk_tup (fun H' e => q H' e) l)⟩
    | str s =>
      right; right
      refine frz_ok S hd fun v B1 H1 ss1 st kp S1 f => ?_
      cases f
      exact ⟨_, rfl, h B1 H1 ss1 [] st kp S1 (by simp) _ itOk_str⟩
    | _ => exact h.elim
/-! ### ranges -/
def rgV (lo : Int) (n : Nat) : List D := (List.range n).map fun (i : Nat) => .int (lo + (i : Int))
def small62 (i : Int) : Bool := decide (-(2 ^ 62) ≤ i) && decide (i < 2 ^ 62)
def itR1 (m : M R) : M (List D) := bnd (args [m]) fun os => bnd (seen os) fun ds => match ds with
  | [.int j] => if small62 j = true then ret (rgV 0 j.toNat) else failM
  | _ => failM
def itR2 (m m' : M R) : M (List D) := bnd (args [m, m']) fun os => bnd (seen os) fun ds => match ds with
  | [.int i, .int j] => if (small62 i && small62 j) = true then ret (rgV i (j - i).toNat) else failM
  | _ => failM
/-- range(i, j, -1) -/
def itR3 (m m' m'' : M R) : M (List D) := bnd (args [m, m', m'']) fun os => bnd (seen os) fun ds => match ds with
  | [.int i, .int j, .int c] => if (small62 i && small62 j && decide (c = -1)) = true then ret ((List.range (i - j).toNat).map fun (k : Nat) => .int (i + (k : Int) * -1)) else failM
  | _ => failM
theorem itOk_rng {B : Hp} {lo : Int} {n : Nat} : ItOk G B (Itr lo n) (rgV lo n) := fun i H' e => by
  refine ⟨fun hi => by simpa [Itr, rgV] using hi, fun hi => by simpa [Itr, rgV] using hi, fun v H'' hy d hd B' eb e' => ?_⟩
  obtain ⟨rfl, rfl⟩ := hy
  have hi : i < n := by have := (List.getElem?_eq_some_iff.mp hd).1; simpa [rgV] using this
  simp [rgV, hi] at hd
  subst hd
  exact ⟨B', Grow.refl e', .int _⟩
theorem itOk_rngC {B : Hp} {lo c : Int} {n : Nat} : ItOk G B (Itc lo c n) ((List.range n).map fun (k : Nat) => .int (lo + (k : Int) * c)) := fun i H' e => by
  refine ⟨fun hi => by simpa [Itc] using hi, fun hi => by simpa [Itc] using hi, fun v H'' hy d hd B' eb e' => ?_⟩
  obtain ⟨rfl, rfl⟩ := hy
  have hi : i < n := by have := (List.getElem?_eq_some_iff.mp hd).1; simpa using this
  simp [hi] at hd
  subst hd
  exact ⟨B', Grow.refl e', .int _⟩
theorem small_and {i : Int} (h : small62 i = true) : -(2 ^ 62) ≤ i ∧ i < 2 ^ 62 := by
  unfold small62 at h
  simpa using h
theorem vwl_int {B H : Hp} {v : V} {i : Int} (h : Vw G B H v (.int i)) : v = .int i := by
  cases h with
  | fr f => cases f; rfl
theorem ji_range1 {a : Expr} {m : M R} {p : Pos} (hm : X.mg "range" = none) (ha : JA G X E [a] [m]) (hg : Gl X "range" := by rfl) (hs : starEach [a] X.env = [(false, eval a X.env)] := by rfl) : JI G X E tg (.Call (.Name "range" p) [a] [] pos) (itR1 m) := by
  refine pi_weak (pi_range1 hg hm ha hs) fun σ H R ⟨B, env, ss, S, h⟩ => ⟨B, env, ss, S, Ok_run h fun os env1 B1 H1 ss1 N hm st kp S1 hN h1 vs ho => ?_⟩
  unfold bnd seen at h1
  cases hd : vws env1 os with
  | none => simp [hd] at h1; exact h1.elim
  | some ds =>
    simp only [hd] at h1
    have hv := vws_ok S1 ho hd
    split at h1
    · rename_i j
      cases hv with
      | cons h2 t => cases t with
        | nil =>
          split at h1
          · rename_i hj
            obtain ⟨j1, j2⟩ := small_and hj
            exact ⟨j, by rw [vwl_int h2], j1, j2, h1.get S1 _ itOk_rng⟩
          · exact h1.elim
    · exact h1.elim
theorem ji_range2 {a b : Expr} {m m' : M R} {p : Pos} (hm : X.mg "range" = none) (ha : JA G X E [a, b] [m, m']) (hg : Gl X "range" := by rfl) (hs : starEach [a, b] X.env = [(false, eval a X.env), (false, eval b X.env)] := by rfl) (hs2 : starEach [b] X.env = [(false, eval b X.env)] := by rfl) : JI G X E tg (.Call (.Name "range" p) [a, b] [] pos) (itR2 m m') := by
  refine pi_weak (pi_range2 hg hm ha hs hs2) fun σ H R ⟨B, env, ss, S, h⟩ => ⟨B, env, ss, S, Ok_run h fun os env1 B1 H1 ss1 N hm st kp S1 hN h1 vs ho => ?_⟩
  unfold bnd seen at h1
  cases hd : vws env1 os with
  | none => simp [hd] at h1; exact h1.elim
  | some ds =>
    simp only [hd] at h1
    have hv := vws_ok S1 ho hd
    split at h1
    · rename_i i j
      cases hv with
      | cons h2 t => cases t with
        | cons h3 t => cases t with
          | nil =>
            split at h1
            · rename_i hj
              simp only [Bool.and_eq_true] at hj
              obtain ⟨j1, j2⟩ := small_and hj.1
              obtain ⟨j3, j4⟩ := small_and hj.2
              exact ⟨i, j, by rw [vwl_int h2, vwl_int h3], ⟨j1, j2, j3, j4⟩, h1.get S1 _ itOk_rng⟩
            · exact h1.elim
    · exact h1.elim
end
end DV

set_option Elab.async false
set_option linter.all false
set_option maxRecDepth 100000
set_option maxHeartbeats 1000000
/-! DV6: displays, comprehensions, what is ours is changed. -/
namespace DV
open PySem L2
variable {G : Cfg}
def fargs : List (M R) → M (List D)
  | [] => ret []
  | m :: r => bnd (frz m) fun d => bnd (fargs r) fun ds => ret (d :: ds)
variable (G)
def tF (E : WX) (m : M (List D)) : TA := fun σ H Q => ∃ B env ss, SR G B σ H env ss ∧ Ok G E σ B H ss (m env) fun ds _ B' H' _ _ => ∀ vs, FrL G B' vs ds → Q vs H'
def JF (X : Cx) (E : WX) (es : List Expr) (ms : List (M R)) : Prop := PA X es (tF G E (fargs ms))
variable {G}
section
variable {X : Cx} {pin : Nat → Prop} {E : WX} {e : Expr} {es : List Expr} {pos : Pos}
theorem jf_nil : JF G X E [] [] := pa_weak pa_nil fun σ H Q ⟨B, env, ss, S, h⟩ => (show Ok G E σ B H ss (.ok [] env) _ from h).get S [] .nil
theorem jf_cons {m : M R} {ms : List (M R)} (h : JE G X E e m) (hr : JF G X E es ms) (hs : starEach (e :: es) X.env = (false, eval e X.env) :: starEach es X.env := by rfl) : JF G X E (e :: es) (m :: ms) := by
  refine pa_weak (pa_cons h hr hs) fun σ H Q ⟨B, env, ss, S, h⟩ => ?_
  unfold fargs at h
  refine frz_run S h fun d env1 v B1 H1 ss1 st kp S1 f h1 => ?_
  refine ⟨B1, env1, ss1, S1, Ok_run h1 fun ds env2 B2 H2 ss2 N hm st2 kp2 S2 hN h2 vs hvs => ?_⟩
  exact (show Ok G E σ B2 H2 ss2 (.ok (d :: ds) env2) _ from h2).get S2 (v :: vs) (.cons (f.mono st2.eb) hvs)
/-! ### displays -/
def tupM (ms : List (M R)) : M R := bnd (fargs ms) fun ds => if ds.length < 100000 then ret (.d (.tup ds)) else failM
def lstM (ms : List (M R)) : M R := bnd (fargs ms) fun ds => if ds.length < 100000 then ret (.lst ds) else failM
theorem je_tup {x1} {ms : List (M R)} (h : JF G X E es ms) : JE G X E (.Tuple es x1 pos) (tupM ms) := by
  refine pe_weak (pe_tup h) fun σ H Q ⟨B, env, ss, S, h⟩ => ⟨B, env, ss, S, Ok_run h fun ds env1 B1 H1 ss1 N hm st kp S1 hN h1 vs hv => ?_⟩
  split at h1
  · rename_i hl
    refine ⟨lim_le (by rw [hv.length]; exact hl), fun p hp => ?_⟩
    have hb : B1 p = none := S1.ex.back hp
    have e1 : Ex B1 (upd B1 p (.tup vs)) := Ex.new hb
    have e2 : Ex (upd B1 p (.tup vs)) (upd H1 p (.tup vs)) := fun a u q => by
      by_cases ha : a = p
      · subst ha; rw [upd_same] at q ⊢; exact q
      · rw [upd_ne ha] at q ⊢; exact S1.ex a u q
    obtain ⟨S2, st2⟩ := S1.grow e1 (Ex.new hp) e2 fun a o ha hn => by
      by_cases h : a = p
      · subst h; rw [hp] at ha; cases ha
      · rw [upd_ne h]; exact hn
    exact h1 _ _ _ [] st2 (Kp.refl _ _) S2 (by simp) (.ref p) [] rfl ⟨rfl, .tup upd_same (hv.mono e1)⟩
  · exact h1.elim
/-- a new thing of ours -/
theorem new_own {B H : Hp} {σ : St} {env : Env} {ss : SS} {p : Addr} {o : HO} (S : SR G B σ H env ss) (hp : H p = none) : SR G B σ (upd H p o) env ss ∧ Step B H ss B (upd H p o) ss ∧ B p = none ∧ p ∉ fl ss := by
  have hb := S.ex.back hp
  obtain ⟨S2, st2⟩ := S.grow (Ex.refl B) (Ex.new (o := o) hp) (fun a u q => by
    rw [upd_ne (ne_of_none q hb)]; exact S.ex a u q) fun a u _ hn => hn
  refine ⟨S2, st2, hb, fun hq => ?_⟩
  obtain ⟨_, u, z⟩ := S.sl.known p hq
  rw [hp] at z; cases z
theorem je_lst {ms : List (M R)} (h : JF G X E es ms) : JE G X E (.List es pos) (lstM ms) := by
  refine pe_weak (pe_lst h) fun σ H Q ⟨B, env, ss, S, h⟩ => ⟨B, env, ss, S, Ok_run h fun ds env1 B1 H1 ss1 N hm st kp S1 hN h1 vs hv => ?_⟩
  split at h1
  · rename_i hl
    refine ⟨lim_le (by rw [hv.length]; exact hl), fun p hp => ?_⟩
    obtain ⟨S2, st2, hb, hq⟩ := new_own (o := .lst vs) S1 hp
    exact h1 _ _ _ [p] st2 (Kp.refl _ _) S2 (by simp [hp]) (.ref p) [some p] rfl ⟨⟨some p, rfl, rfl, hb, vs, upd_same, hv⟩, by simpa using hq, by simp⟩
  · exact h1.elim
theorem je_dnewK : JE G X E (.Dict [] [] pos) (ret (.dic (false, []))) := by
  refine pe_weak pe_dnewK fun σ H Q ⟨B, env, ss, S, h⟩ => fun p hp => ?_
  obtain ⟨S2, st2, hb, hq⟩ := new_own (o := .dK []) S hp
  exact (show Ok G E σ B H ss (.ok (R.dic (false, [])) env) _ from h) _ _ _ [p] st2 (Kp.refl _ _) S2 (by simp [hp]) (.ref p) [some p] rfl ⟨⟨some p, rfl, rfl, hb, .inl ⟨[], [], rfl, upd_same, .nil⟩⟩, by simpa using hq, by simp⟩
theorem je_dnewT : JE G X E (.Dict [] [] pos) (ret (.dic (true, []))) := by
  refine pe_weak pe_dnewT fun σ H Q ⟨B, env, ss, S, h⟩ => fun p hp => ?_
  obtain ⟨S2, st2, hb, hq⟩ := new_own (o := .dT []) S hp
  exact (show Ok G E σ B H ss (.ok (R.dic (true, [])) env) _ from h) _ _ _ [p] st2 (Kp.refl _ _) S2 (by simp [hp]) (.ref p) [some p] rfl ⟨⟨some p, rfl, rfl, hb, .inr ⟨[], [], rfl, upd_same, .nil⟩⟩, by simpa using hq, by simp⟩
end

/-! ### comprehensions -/
def plainAt (env : Env) : List Nat → Bool
  | [] => true
  | i :: r => (match env[i]? with
    | some none => true
    | some (some (.f (.fz _))) => true
    | _ => false) && plainAt env r
def wipeE (env : Env) : List Nat → Env
  | [] => env
  | i :: r => (wipeE env r).set i none
/-- what stood at these slots is put back -/
def backE (env0 env : Env) : List Nat → Env
  | [] => env
  | i :: r => (backE env0 env r).set i ((env0[i]?).getD none)
def lcM (t : Tg) (c : M Bool) (el : M R) (vs : List Nat) : List D → List D → M (List D)
  | [], acc => ret acc
  | d :: r, acc => fun env => match t d env with
    | none => .fail
    | some env1 => bnd c (fun b => if b = true then bnd (frz el) fun x env2 => if acc.length < 100000 then lcM t c el vs r (acc ++ [x]) (wipeE env2 vs) else .fail else fun env2 => lcM t c el vs r acc (wipeE env2 vs)) env1
def compM (vs : List Nat) (mi : M (List D)) (t : Tg) (c : M Bool) (el : M R) : M R := bnd mi fun ds env =>
  if plainAt env vs = true then match lcM t c el vs ds [] (wipeE env vs) with
    | .ok acc env' => .ok (.lst acc) (backE env env' vs)
    | _ => .fail
  else .fail
def wipeS (ss : SS) : List Nat → SS
  | [] => ss
  | i :: r => (wipeS ss r).set i []
def backS (ss : SS) (env0 : Env) : List Nat → SS
  | [] => ss
  | i :: r => (backS ss env0 r).set i (match env0[i]? with
    | some (some _) => [none]
    | _ => [])
theorem wipe_len (σ : St) : ∀ vs : List Nat, (wipe σ vs).length = σ.length := wipe_length σ
theorem wipeE_len (env : Env) : ∀ vs : List Nat, (wipeE env vs).length = env.length
  | [] => rfl
  | i :: r => by simp [wipeE, wipeE_len env r]
theorem SR.wipe {B H : Hp} {σ : St} {env : Env} {ss : SS} (S : SR G B σ H env ss) : ∀ vs : List Nat, SR G B (wipe σ vs) H (wipeE env vs) (wipeS ss vs) ∧ (fl (wipeS ss vs)).Sublist (fl ss)
  | [] => ⟨S, List.Sublist.refl _⟩
  | i :: r => by
    obtain ⟨q, sb⟩ := SR.wipe S r
    have sub : (fl ((wipeS ss r).set i [])).Sublist (fl (wipeS ss r)) := by
      cases h : (wipeS ss r)[i]? with
      | none => rw [List.set_eq_of_length_le (List.getElem?_eq_none_iff.mp h)]; exact List.Sublist.refl _
      | some s0 => exact fl_set_sub h (by simp)
    exact ⟨⟨q.ex, SlsOk.set (v := none) (o := none) (s := []) rfl q.sl, q.nd.sublist sub⟩, sub.trans sb⟩
/-- the slots are put back -/
theorem SR.back {B0 H0 B H : Hp} {σ : St} {env0 env : Env} {ss0 ss : SS} (S0 : SR G B0 σ H0 env0 ss0) (eb : Ex B0 B) : ∀ vs : List Nat, plainAt env0 vs = true → ∀ {σ' : St}, SR G B σ' H env ss → (∀ i, i ∉ vs → σ'[i]? = σ[i]?) → σ'.length = σ.length →
    ∃ ss', SR G B σ H (backE env0 env vs) ss' ∧ (fl ss').Sublist (fl ss) ∧ ss'.length = ss.length ∧ ∀ i, i ∉ vs → ss'[i]? = ss[i]?
  | [], _, σ', S, h, hl => by
    have : σ' = σ := List.ext_getElem? fun i => h i (by simp)
    subst this
    exact ⟨ss, S, List.Sublist.refl _, rfl, fun _ _ => rfl⟩
  | i :: r, hp, σ', S, h, hl => by
    -- give slot i its value first
    unfold plainAt at hp
    simp only [Bool.and_eq_true] at hp
    obtain ⟨hp1, hp2⟩ := hp
    by_cases hi : i < σ.length
    · have hσ : σ[i]? = some σ[i] := List.getElem?_eq_getElem hi
      have hi0 : i < env0.length := by rw [← S0.sl.len.1]; exact hi
      have sub0 : ∀ (s : SA), s.filterMap id = [] → (fl (ss.set i s)).Sublist (fl ss) := fun s hs => by
        cases h : ss[i]? with
        | none => rw [List.set_eq_of_length_le (List.getElem?_eq_none_iff.mp h)]; exact List.Sublist.refl _
        | some s0 => exact fl_set_sub h (by rw [hs]; simp)
      -- the state with slot i set
      have key : ∀ (o : Option O) (s : SA), SlOk G B H σ[i] o s → s.filterMap id = [] → SR G B (σ'.set i σ[i]) H (env.set i o) (ss.set i s) := fun o s ho hs =>
        ⟨S.ex, SlsOk.set ho S.sl, S.nd.sublist (sub0 s hs)⟩
      have go : ∀ (o : Option O) (s : SA), SlOk G B H σ[i] o s → s.filterMap id = [] → ∃ ss', SR G B σ H ((backE env0 env r).set i o) ss' ∧ (fl ss').Sublist (fl ss) ∧ ss'.length = ss.length ∧ ∀ j, j ∉ i :: r → ss'[j]? = ss[j]? := by
        intro o s ho hs
        have k1 := key o s ho hs
        -- now the rest, over the state with i set; then i once more
        obtain ⟨ss2, S2, sb2, ln2, at2⟩ := SR.back (env := env.set i o) (ss := ss.set i s) S0 eb r hp2 k1 (fun j hj => by
          by_cases hij : i = j
          · subst hij; rw [List.getElem?_set_self (by rw [hl]; exact hi)]; exact hσ.symm
          · rw [List.getElem?_set_ne hij]; exact h j (by simp [hj, Ne.symm hij])) (by simp [hl])
        have S3 : SR G B σ H ((backE env0 (env.set i o) r).set i o) (ss2.set i s) := by
          have q := SlsOk.setE (i := i) ho hσ S2.sl
          refine ⟨S2.ex, q, S2.nd.sublist ?_⟩
          cases h : ss2[i]? with
          | none => rw [List.set_eq_of_length_le (List.getElem?_eq_none_iff.mp h)]; exact List.Sublist.refl _
          | some s0 => exact fl_set_sub h (by rw [hs]; simp)
        have e3 : (backE env0 (env.set i o) r).set i o = (backE env0 env r).set i o := by
          have gen : ∀ (l : List Nat) (e : Env), (backE env0 (e.set i o) l).set i o = (backE env0 e l).set i o := by
            intro l
            induction l with
            | nil => intro e; simp [backE]
            | cons k l ih =>
              intro e
              unfold backE
              by_cases hk : k = i
              · subst hk; rw [List.set_set, List.set_set]; exact ih e
              · rw [List.set_comm _ _ hk, ih e, List.set_comm _ _ (Ne.symm hk)]
          exact gen r env
        rw [e3] at S3
        refine ⟨_, S3, ?_, by simp [ln2], fun j hj => ?_⟩
        · refine List.Sublist.trans ?_ (sb2.trans (sub0 s hs))
          cases h : ss2[i]? with
          | none => rw [List.set_eq_of_length_le (List.getElem?_eq_none_iff.mp h)]; exact List.Sublist.refl _
          | some s0 => exact fl_set_sub h (by rw [hs]; simp)
        · simp at hj
          rw [List.getElem?_set_ne (Ne.symm hj.1), at2 j hj.2, List.getElem?_set_ne (Ne.symm hj.1)]
      unfold backE
      cases he : env0[i]? with
      | none => rw [List.getElem?_eq_none_iff] at he; omega
      | some o => cases o with
        | none => exact go none [] rfl rfl
        | some o => cases o with
          | ins c fs => simp [he] at hp1
          | f x => cases x with
            | lst xs => simp [he] at hp1
            | dic xs => simp [he] at hp1
            | fz d =>
              obtain ⟨v, s, e1, e2, a, rfl, hf⟩ := S0.sl.get he
              rw [hσ] at e1
              have e1 := Option.some.inj e1
              cases a with
              | some p => exact hf.elim
              | none => exact go (some (.f (.fz d))) [none] (by rw [e1]; exact ⟨none, rfl, Fr.mono eb hf⟩) (by simp)
    · have e1 : (backE env0 env r).set i ((env0[i]?).getD none) = backE env0 env r := by
        have ln : ∀ l : List Nat, (backE env0 env l).length = env.length := by
          intro l; induction l with
          | nil => rfl
          | cons k l ih => simp [backE, ih]
        rw [List.set_eq_of_length_le]
        rw [ln]
        have := S.sl.len.1
        omega
      obtain ⟨ss2, S2, sb2, ln2, at2⟩ := SR.back S0 eb r hp2 S (fun j hj => by
        by_cases hij : j = i
        · subst hij
          rw [List.getElem?_eq_none (by omega), List.getElem?_eq_none (by omega)]
        · exact h j (by simp [hj, hij])) hl
      unfold backE
      rw [e1]
      exact ⟨ss2, S2, sb2, ln2, fun j hj => at2 j (fun z => hj (List.mem_cons_of_mem _ z))⟩
theorem wipe_get (σ : St) (i : Nat) : ∀ vs : List Nat, (wipe σ vs)[i]? = if i ∈ vs then (if i < σ.length then some none else none) else σ[i]?
  | [] => by simp [wipe]
  | k :: r => by
    unfold wipe
    by_cases hk : k = i
    · subst hk
      rw [if_pos (by simp)]
      by_cases hl : k < σ.length
      · rw [if_pos hl, List.getElem?_set_self (by rw [wipe_len]; exact hl)]
      · rw [if_neg hl, List.getElem?_eq_none (by simp [wipe_len]; omega)]
    · rw [List.getElem?_set_ne hk, wipe_get σ i r]
      by_cases hi : i ∈ r
      · rw [if_pos hi, if_pos (List.mem_cons_of_mem _ hi)]
      · rw [if_neg hi, if_neg (by simp [hi, Ne.symm hk])]
theorem wipe_pin {σ σ2 : St} {vs : List Nat} (h : Pin (fun i => i ∉ vs) (wipe σ vs) σ2) : wipe σ2 vs = wipe σ vs := by
  have hl : σ2.length = σ.length := by rw [h.len, wipe_len]
  refine List.ext_getElem? fun i => ?_
  rw [wipe_get, wipe_get]
  by_cases hi : i ∈ vs
  · rw [if_pos hi, if_pos hi, hl]
  · rw [if_neg hi, if_neg hi, h.at_ i hi, wipe_get, if_neg hi]
theorem wipeS_get (ss : SS) (i : Nat) : ∀ vs : List Nat, (wipeS ss vs)[i]? = if i ∈ vs then (if i < ss.length then some [] else none) else ss[i]?
  | [] => by simp [wipeS]
  | k :: r => by
    have ln : ∀ l : List Nat, (wipeS ss l).length = ss.length := by
      intro l; induction l with
      | nil => rfl
      | cons a l ih => simp [wipeS, ih]
    unfold wipeS
    by_cases hk : k = i
    · subst hk
      rw [if_pos (by simp)]
      by_cases hl : k < ss.length
      · rw [if_pos hl, List.getElem?_set_self (by rw [ln]; exact hl)]
      · rw [if_neg hl, List.getElem?_eq_none (by simp [ln]; omega)]
    · rw [List.getElem?_set_ne hk, wipeS_get ss i r]
      by_cases hi : i ∈ r
      · rw [if_pos hi, if_pos (List.mem_cons_of_mem _ hi)]
      · rw [if_neg hi, if_neg (by simp [hi, Ne.symm hk])]
theorem backE_get (env0 env : Env) (i : Nat) (hi : i < env.length) : ∀ vs : List Nat, i ∈ vs → (backE env0 env vs)[i]? = some ((env0[i]?).getD none)
  | [], h => by cases h
  | k :: r, h => by
    have ln : ∀ l : List Nat, (backE env0 env l).length = env.length := by
      intro l; induction l with
      | nil => rfl
      | cons a l ih => simp [backE, ih]
    unfold backE
    by_cases hk : k = i
    · subst hk
      rw [List.getElem?_set_self (by rw [ln]; exact hi)]
    · rw [List.getElem?_set_ne hk]
      exact backE_get env0 env i hi r (by simpa [Ne.symm hk] using h)
/-- what a slot's addresses are where nothing of ours stands -/
theorem SlsOk.plain {B H : Hp} : ∀ {σ : St} {env : Env} {ss : SS} {i : Nat} {o : Option O}, SlsOk G B H σ env ss → env[i]? = some o → (o = none → ss[i]? = some []) ∧ (∀ d, o = some (.f (.fz d)) → ss[i]? = some [none])
  | _, _, _, _, _, .nil, e => by simp at e
  | _, _, _, 0, o, .cons (v := v) h _, e => by
    simp at e; subst e
    refine ⟨fun z => ?_, fun d z => ?_⟩
    · subst z; rw [show _ = [] from h]; rfl
    · subst z
      cases v with
      | none => exact h.elim
      | some v =>
        obtain ⟨a, rfl, hf⟩ := h
        cases a with
        | none => rfl
        | some p => exact hf.elim
  | _, _, _, i + 1, o, .cons _ l, e => by
    have := SlsOk.plain (i := i) l (by simpa using e)
    simpa using this
theorem kps_of {s s' : SA} (h : s' = s) : KpS s s' := h ▸ KpS.refl s
/-- what is tracked and ours alone, but in no slot, changes -/
theorem SR.other {B H : Hp} {σ : St} {env : Env} {ss : SS} {p : Addr} {o : HO} (S : SR G B σ H env ss) (hb : B p = none) (hp : p ∉ fl ss) : SR G B σ (upd H p o) env ss :=
  ⟨fun a u q => by rw [upd_ne (ne_of_none q hb)]; exact S.ex a u q, S.sl.step (Ex.refl _) fun q hq => ⟨by rw [upd_ne (show q ≠ p by rintro rfl; exact hp hq)], fun h => h⟩, S.nd⟩
theorem tLc_of {E E0 : WX} {mi : M (List D)} {t : Tg} {c : M Bool} {el : M R} {vs : List Nat} {σ : St} {H : Hp} {Q : VK} (h : tE G E (compM vs mi t c el) σ H Q) : tLc (tI G E mi) (tG G (fun i => i ∉ vs) t) (tT G E0 c) (tE G E0 el) vs σ H Q := by
  obtain ⟨B, env, ss, S, h⟩ := h
  refine ⟨B, env, ss, S, Ok_run h fun ds env1 B1 H1 ss1 N hm st kp S1 hN h1 J hJ Dl hD => ?_⟩
  have hpl : plainAt env1 vs = true := by
    cases h : plainAt env1 vs with
    | true => rfl
    | false => rw [if_neg (by rw [h]; simp)] at h1; exact h1.elim
  rw [if_pos hpl] at h1
  cases hr : lcM t c el vs ds [] (wipeE env1 vs) with
  | fail => rw [hr] at h1; exact h1.elim
  | exc x e => rw [hr] at h1; exact h1.elim
  | ok accF envF =>
    rw [hr] at h1
    obtain ⟨SW, sub⟩ := S1.wipe vs
    obtain ⟨S2, st2, hb, hq⟩ := new_own (o := .lst []) SW hD
    have hDs : Dl ∉ fl ss1 := fun z => by
      obtain ⟨_, u, y⟩ := S1.sl.known Dl z
      rw [hD] at y; cases y
    refine ⟨fun i m H' => m + i = ds.length ∧ ∃ B' env' ss' acc vacc, Step B1 H1 ss1 B' H' ss' ∧ Kp (fun i => i ∉ vs) ss1 ss' ∧ SR G B' (wipe σ vs) H' env' ss' ∧ B' Dl = none ∧ Dl ∉ fl ss' ∧ H' Dl = some (.lst vacc) ∧ FrL G B' vacc acc ∧ lcM t c el vs (ds.drop i) acc env' = .ok accF envF,
      ⟨ds.length, by simp, B1, wipeE env1 vs, wipeS ss1 vs, [], [], ⟨Ex.refl _, fun a o ha hn => ?_, fun a o ha hn _ => hn, fun a ha => .inl (sub.subset ha), fun a ha => ?_⟩, fun i hi s e => ⟨s, by rw [wipeS_get, if_neg hi]; exact e, KpS.refl _⟩, S2, hb, hq, upd_same, .nil, by simpa using hr⟩, fun i m H' hw => ?_⟩
    · rw [upd_ne (ne_of_none ha hD)]; exact ha
    · by_cases e : a = Dl
      · subst e; rw [upd_same]; simp
      · rw [upd_ne e]; exact ha
    obtain ⟨hmi, B', env', ss', acc, vacc, st', kp', S', hb', hn', hl', hf', hr'⟩ := hw
    obtain ⟨g1, g2, g3⟩ := hJ i H' (st'.eb.trans S'.ex)
    by_cases hlt : i < ds.length
    · right
      refine ⟨g1 hlt, fun H2 => (m - 1) + (i + 1) = ds.length ∧ ∃ B' env' ss' acc vacc, Step B1 H1 ss1 B' H2 ss' ∧ Kp (fun i => i ∉ vs) ss1 ss' ∧ SR G B' (wipe σ vs) H2 env' ss' ∧ B' Dl = none ∧ Dl ∉ fl ss' ∧ H2 Dl = some (.lst vacc) ∧ FrL G B' vacc acc ∧ lcM t c el vs (ds.drop (i + 1)) acc env' = .ok accF envF, fun H2 q => ⟨m - 1, by omega, q⟩, fun x H'' hy => ?_⟩
      have hd : ds[i]? = some ds[i] := List.getElem?_eq_getElem hlt
      obtain ⟨B'', gr, hfx⟩ := g3 x H'' hy _ hd B' st'.eb S'.ex
      obtain ⟨S'', st''⟩ := S'.grow gr.eb gr.eh gr.ex gr.bn
      have hb'' : B'' Dl = none := gr.bn Dl _ hl' hb'
      have hl'' : H'' Dl = some (.lst vacc) := gr.eh _ _ hl'
      rw [List.drop_eq_getElem_cons hlt] at hr'
      unfold lcM at hr'
      cases ht : t ds[i] env' with
      | none => simp only [ht] at hr'; cases hr'
      | some env2 =>
        simp only [ht] at hr'
        refine ⟨B'', env', ss', ds[i], S'', hfx, env2, ht, fun σ2 B2 H2 ss2 st2 kp2 pn2 S2 => ⟨wipe_pin pn2, ?_⟩⟩
        have hw2 : wipe σ2 vs = wipe σ vs := wipe_pin pn2
        have stA : Step B1 H1 ss1 B2 H2 ss2 := (st'.trans st'').trans st2
        have kpA : Kp (fun i => i ∉ vs) ss1 ss2 := kp'.trans kp2
        have hb2 : B2 Dl = none := st2.bn Dl _ hl'' hb'' hn'
        have hl2 : H2 Dl = some (.lst vacc) := st2.fr Dl _ hl'' hn'
        have hn2 : Dl ∉ fl ss2 := fun z => by
          rcases st2.nw Dl z with q | q
          · exact hn' q
          · rw [hl''] at q; cases q
        have hf2 : FrL G B2 vacc acc := hf'.mono (gr.eb.trans st2.eb)
        unfold bnd at hr'
        cases hc : c env2 with
        | fail => rw [hc] at hr'; cases hr'
        | exc x e => rw [hc] at hr'; cases hr'
        | ok b env3 =>
          rw [hc] at hr'
          refine tT_ok S2 hc fun B3 H3 ss3 st3 kp3 S3 => ?_
          have hb3 : B3 Dl = none := st3.bn Dl _ hl2 hb2 hn2
          have hl3 : H3 Dl = some (.lst vacc) := st3.fr Dl _ hl2 hn2
          have hn3 : Dl ∉ fl ss3 := fun z => by
            rcases st3.nw Dl z with q | q
            · exact hn2 q
            · rw [hl2] at q; cases q
          have wipeStep : ∀ {B4 H4 : Hp} {ss4 : SS} {env4 : Env} {H5 : Hp}, Step B1 H1 ss1 B4 H4 ss4 → Kp (fun i => i ∉ vs) ss1 ss4 → SR G B4 σ2 H4 env4 ss4 → Dl ∉ fl ss4 → B4 Dl = none → (∀ a, a ≠ Dl → H5 a = H4 a) → H5 Dl ≠ none →
              Step B1 H1 ss1 B4 H5 (wipeS ss4 vs) ∧ Kp (fun i => i ∉ vs) ss1 (wipeS ss4 vs) ∧ Dl ∉ fl (wipeS ss4 vs) := by
            intro B4 H4 ss4 env4 H5 s4 k4 S4 n4 b4 he hne
            obtain ⟨_, sb⟩ := S4.wipe vs
            refine ⟨⟨s4.eb, fun a o ha hna => ?_, s4.bn, fun a ha => s4.nw a (sb.subset ha), fun a ha => ?_⟩, fun j hj s e => ?_, fun z => n4 (sb.subset z)⟩
            · have : a ≠ Dl := ne_of_none ha hD
              rw [he a this]; exact s4.fr a o ha hna
            · by_cases e : a = Dl
              · subst e; exact hne
              · rw [he a e]; exact s4.kp a ha
            · obtain ⟨s', e', k'⟩ := k4 j hj s e
              exact ⟨s', by rw [wipeS_get, if_neg hj]; exact e', k'⟩
          cases b with
          | false =>
            simp only [Bool.false_eq_true, if_false] at hr' ⊢
            obtain ⟨S4, _⟩ := S3.wipe vs
            obtain ⟨q1, q2, q3⟩ := wipeStep (H5 := H3) (stA.trans st3) (kpA.trans (kp3.weak fun _ _ => trivial)) S3 hn3 hb3 (fun _ _ => rfl) (by rw [hl3]; simp)
            exact ⟨by omega, B3, _, _, acc, vacc, q1, q2, hw2 ▸ S4, hb3, q3, hl3, hf2.mono st3.eb, hr'⟩
          | true =>
            simp only [if_true] at hr' ⊢
            cases hel : frz el env3 with
            | fail => rw [hel] at hr'; cases hr'
            | exc x e => rw [hel] at hr'; cases hr'
            | ok y env4 =>
              rw [hel] at hr'
              simp only at hr'
              have hlim : acc.length < 100000 := by
                by_cases h : acc.length < 100000
                · exact h
                · rw [if_neg h] at hr'; cases hr'
              rw [if_pos hlim] at hr'
              refine frz_ok S3 hel fun w B4 H4 ss4 st4 kp4 S4 fy => ?_
              have hb4 : B4 Dl = none := st4.bn Dl _ hl3 hb3 hn3
              have hl4 : H4 Dl = some (.lst vacc) := st4.fr Dl _ hl3 hn3
              have hn4 : Dl ∉ fl ss4 := fun z => by
                rcases st4.nw Dl z with q | q
                · exact hn3 q
                · rw [hl3] at q; cases q
              have hf4 : FrL G B4 vacc acc := hf2.mono (st3.eb.trans st4.eb)
              obtain ⟨S5, sb5⟩ := S4.wipe vs
              obtain ⟨q1, q2, q3⟩ := wipeStep (H5 := upd H4 Dl (.lst (vacc ++ [w]))) ((stA.trans st3).trans st4) ((kpA.trans (kp3.weak fun _ _ => trivial)).trans (kp4.weak fun _ _ => trivial)) S4 hn4 hb4 (fun a ha => upd_ne ha) (by rw [upd_same]; simp)
              refine ⟨vacc, hl4, lim_lt (by rw [hf4.length]; exact hlim), by omega, B4, _, _, acc ++ [y], vacc ++ [w], q1, q2, ?_, hb4, q3, upd_same, hf4.append (.cons fy .nil), hr'⟩
              rw [← hw2]
              exact S5.other hb4 q3
    · left
      refine ⟨g2 (by omega), ?_⟩
      rw [List.drop_eq_nil_of_le (by omega)] at hr'
      simp only [lcM, ret] at hr'
      cases hr'
      obtain ⟨ss'', S'', sb'', ln'', at''⟩ := SR.back S1 st'.eb vs hpl S' (fun i hi => by rw [wipe_get, if_neg hi]) (wipe_len σ vs)
      have stF : Step B1 H1 ss1 B' H' ss'' := ⟨st'.eb, st'.fr, st'.bn, fun a ha => st'.nw a (sb''.subset ha), st'.kp⟩
      have ln1 : ss1.length = σ.length := S1.sl.len.2.trans S1.sl.len.1.symm
      have ln2 : ss''.length = σ.length := S''.sl.len.2.trans S''.sl.len.1.symm
      refine h1 B' H' ss'' [Dl] stF (fun i _ s e => ?_) S'' (by simp [hD]) (.ref Dl) [some Dl] rfl ⟨⟨some Dl, rfl, rfl, hb', vacc, hl', hf'⟩, by simpa using fun z => hn' (sb''.subset z), by simp⟩
      by_cases hi : i ∈ vs
      · have hi1 : i < σ.length := by rw [← ln1]; exact (List.getElem?_eq_some_iff.mp e).1
        have hi2 : i < env1.length := by rw [← S1.sl.len.1]; exact hi1
        have hi3 : i < envF.length := by rw [← S'.sl.len.1, wipe_len]; exact hi1
        have e1 : env1[i]? = some env1[i] := List.getElem?_eq_getElem hi2
        have e2 : (backE env1 envF vs)[i]? = some env1[i] := by rw [backE_get env1 envF i hi3 vs hi, e1]; rfl
        have pl : env1[i] = none ∨ ∃ d, env1[i] = some (.f (.fz d)) := by
          have go : ∀ l : List Nat, plainAt env1 l = true → i ∈ l → env1[i] = none ∨ ∃ d, env1[i] = some (.f (.fz d)) := by
            intro l
            induction l with
            | nil => intro _ h; cases h
            | cons k l ih =>
              intro hp h
              unfold plainAt at hp
              simp only [Bool.and_eq_true] at hp
              by_cases hk : k = i
              · subst hk
                rw [e1] at hp
                cases ho : env1[k] with
                | none => exact .inl rfl
                | some o => cases o with
                  | ins c fs => rw [ho] at hp; simp at hp
                  | f x => cases x with
                    | fz d => exact .inr ⟨d, rfl⟩
                    | lst xs => rw [ho] at hp; simp at hp
                    | dic xs => rw [ho] at hp; simp at hp
              · exact ih hp.2 (by simpa [Ne.symm hk] using h)
          exact go vs hpl hi
        obtain ⟨p1, p2⟩ := S1.sl.plain e1
        obtain ⟨p3, p4⟩ := S''.sl.plain e2
        rcases pl with z | ⟨d, z⟩
        · have a1 := p1 z
          have a2 := p3 z
          rw [a1] at e; cases e
          exact ⟨[], a2, KpS.refl _⟩
        · have a1 := p2 d z
          have a2 := p4 d z
          rw [a1] at e; cases e
          exact ⟨[none], a2, KpS.refl _⟩
      · obtain ⟨s', e', k'⟩ := kp' i hi s e
        exact ⟨s', by rw [at'' i hi]; exact e', k'⟩
section
variable {X : Cx} {pin : Nat → Prop} {E E0 : WX} {pos : Pos}
def JC (G : Cfg) (X : Cx) (E : WX) (ifs : List Expr) (c : M Bool) : Prop := PTs X ifs (tT G E c)
theorem jc_nil : JC G X E [] (ret true) := ⟨fun pins s σ H Q I ⟨B, env, ss, S, h⟩ => pts_nil.run pins s σ H Q I ((show Ok G E σ B H ss (.ok true env) _ from h).get S)⟩
theorem jc_one {c : Expr} {m : M Bool} (h : JT G X E c m) : JC G X E [c] m := pts_one h
/-- no exception leaves a comprehension -/
def noE : WX := fun _ _ _ _ => False
theorem je_lc {elt tg iter : Expr} {ifs : List Expr} {scope : Scope} {own : List (Str × Nat)} (vs : List Nat) {mi : M (List D)} {t : Tg} {c : M Bool} {el : M R} (hc : X.calm = true) (hN : X.N.Nodup) (hi : JI G X E tg iter mi) (ok : BlkOk X.N X.env.scope scope own)
    (hg : ∀ (s : Shared) (H : Hp) (C : Addr) (cl : List (Str × Addr)) (fp : List Addr), JG G (X.blk s H scope (compEnvC scope cl C X.env) fp) (fun i => i ∉ vs) tg t) (ht : ∀ (s : Shared) (H : Hp) (C : Addr) (cl : List (Str × Addr)) (fp : List Addr), JC G (X.blk s H scope (compEnvC scope cl C X.env) fp) noE ifs c)
    (he : ∀ (s : Shared) (H : Hp) (C : Addr) (cl : List (Str × Addr)) (fp : List Addr), JE G (X.blk s H scope (compEnvC scope cl C X.env) fp) noE elt el) (hv : own.map (·.2) = vs := by rfl) (hs : ∀ x, foldedSetIterable iter X.env x = pure x := by intro _; rfl) :
    JE G X E (.ListComp elt [⟨tg, iter, ifs, 0⟩] scope pos) (compM vs mi t c el) := by
  subst hv
  exact pe_weak (pe_lc hc hN hi ok hg ht he hs) fun σ H Q h => tLc_of h
theorem js_setLc (i : Nat) {y : Str} {py spos : Pos} {elt tg iter : Expr} {ifs : List Expr} {scope : Scope} {own : List (Str × Nat)} (vs : List Nat) {mi : M (List D)} {t : Tg} {c : M Bool} {el : M R} (hc : X.calm = true) (hN : X.N.Nodup) (hi : JI G X E tg iter mi) (ok : BlkOk X.N X.env.scope scope own)
    (hg : ∀ (s : Shared) (H : Hp) (C : Addr) (cl : List (Str × Addr)) (fp : List Addr), JG G (X.blk s H scope (compEnvC scope cl C X.env) fp) (fun i => i ∉ vs) tg t) (ht : ∀ (s : Shared) (H : Hp) (C : Addr) (cl : List (Str × Addr)) (fp : List Addr), JC G (X.blk s H scope (compEnvC scope cl C X.env) fp) noE ifs c)
    (he : ∀ (s : Shared) (H : Hp) (C : Addr) (cl : List (Str × Addr)) (fp : List Addr), JE G (X.blk s H scope (compEnvC scope cl C X.env) fp) noE elt el) (hp : ¬ pin i := by decide) (hy : X.N[i]? = some y := by rfl) (hyl : X.env.scope.names.lookup y = some .local := by rfl)
    (hsw : swapsWith (.ListComp elt [⟨tg, iter, ifs, 0⟩] scope pos) (some (.Name y py)) spos.line X.env = pure true := by exact sw_true rfl rfl rfl (by decide +kernel)) (hv : own.map (·.2) = vs := by rfl) (hs : ∀ x, foldedSetIterable iter X.env x = pure x := by intro _; rfl) :
    JS G X pin E (.Assign [.Name y py] (.ListComp elt [⟨tg, iter, ifs, 0⟩] scope pos) spos) (asgM i (compM vs mi t c el)) := by
  subst hv
  exact ps_weak (ps_setLc hc hN hy hyl hsw hi ok hg ht he hs) fun Z σ H h => tAsg_of (fun Q q => tLc_of q) hp h
end
end DV

set_option Elab.async false
set_option linter.all false
set_option maxRecDepth 100000
set_option maxHeartbeats 1000000
/-! DV7: lists, dicts and fields of ours change. -/
namespace DV
open PySem L2
variable {G : Cfg}
def getC (env : Env) : Op → Option Fd
  | .at i => match env[i]? with
    | some (some (.f (.lst xs))) => some (.lst xs)
    | some (some (.f (.dic xs))) => some (.dic xs)
    | _ => none
  | .fld i j => match env[i]? with
    | some (some (.ins _ fs)) => match fs[j]? with
      | some (.lst xs) => some (.lst xs)
      | some (.dic xs) => some (.dic xs)
      | _ => none
    | _ => none
  | .d _ => none
def putC (env : Env) (o : Op) (x : Fd) : Env := match o with
  | .at i => env.set i (some (.f x))
  | .fld i j => match env[i]? with
    | some (some (.ins c fs)) => env.set i (some (.ins c (fs.set j x)))
    | _ => env
  | .d _ => env
theorem set_self {α : Type} {l : List α} {i : Nat} {a : α} (h : l[i]? = some a) : l.set i a = l := by
  apply List.ext_getElem?
  intro j
  by_cases hj : i = j
  · subst hj; rw [List.getElem?_set_self (List.getElem?_eq_some_iff.mp h).1, h]
  · rw [List.getElem?_set_ne hj]
theorem FdsOk.setOwn {B H : Hp} {p : Addr} {o' : HO} {v : V} {x : Fd} (h : FdOk G B (upd H p o') v x (some p)) : ∀ {vs : List V} {xs : List Fd} {as : SA} {j : Nat}, FdsOk G B H vs xs as → vs[j]? = some v → as[j]? = some (some p) → (as.filterMap id).Nodup → FdsOk G B (upd H p o') vs (xs.set j x) as
  | _, _, _, _, .nil, e, _, _ => by simp at e
  | _, _, _, 0, .cons (as := as) q l, e, ea, nd => by
    simp at e ea; subst e; subst ea
    refine .cons h (l.step (Ex.refl _) fun r hr => ⟨?_, fun z => z⟩)
    have : r ≠ p := by
      rintro rfl
      have nd' : (r :: (List.filterMap id as)).Nodup := by simpa using nd
      exact (List.nodup_cons.mp nd').1 (by simpa using hr)
    rw [upd_ne this]
  | _, _, _, j + 1, .cons (a := a) (as := as) q l, e, ea, nd => by
    have hmem : some p ∈ as := List.mem_of_getElem? (show as[j]? = some (some p) by simpa using ea)
    refine .cons (q.step (Ex.refl _) fun r hr => ⟨?_, fun z => z⟩) (FdsOk.setOwn h (j := j) l (by simpa using e) (by simpa using ea) ?_)
    · subst hr
      have : r ≠ p := by
        rintro rfl
        have nd' : (r :: (List.filterMap id as)).Nodup := by simpa using nd
        exact (List.nodup_cons.mp nd').1 (by simpa using hmem)
      rw [upd_ne this]
    · cases a with
      | none => simpa using nd
      | some c => exact (List.nodup_cons.mp (show (c :: List.filterMap id as).Nodup by simpa using nd)).2
theorem nodup_slot {ss : SS} {i : Nat} {s : SA} (nd : (fl ss).Nodup) (e : ss[i]? = some s) : (s.filterMap id).Nodup := by
  obtain ⟨l1, l2, hl⟩ := List.append_of_mem (List.mem_of_getElem? e)
  rw [hl, fl_append, fl_cons] at nd
  exact (List.nodup_append.mp (List.nodup_append.mp nd).2.1).1
/-- a list or a dict of ours, and what a change of it does -/
theorem cell_at {B H : Hp} {σ : St} {env : Env} {ss : SS} {v : V} {o : Op} {x : Fd} (S : SR G B σ H env ss) (ho : OpRep G σ B H ss v o) (hg : getC env o = some x) :
    ∃ p, v = .ref p ∧ FdOk G B H v x (some p) ∧ p ∈ fl ss ∧ ∀ x' o', FdOk G B (upd H p o') v x' (some p) → SR G B σ (upd H p o') (putC env o x') ss ∧ Step B H ss B (upd H p o') ss := by
  have stp : ∀ {p : Addr} {o' : HO}, p ∈ fl ss → Step B H ss B (upd H p o') ss := fun {p o'} hp => ⟨Ex.refl _, fun a u ha hn => by rw [upd_ne (show a ≠ p by rintro rfl; exact hn hp)]; exact ha, fun _ _ _ h _ => h, fun _ h => .inl h, fun a ha => by
    by_cases e : a = p
    · subst e; rw [upd_same]; simp
    · rw [upd_ne e]; exact ha⟩
  have exk : ∀ {p : Addr} {o' : HO}, p ∈ fl ss → Ex B (upd H p o') := fun {p o'} hp a u ha => by
    obtain ⟨hb, _⟩ := S.sl.known p hp
    rw [upd_ne (ne_of_none ha hb)]; exact S.ex a u ha
  have base : ∀ {p : Addr} {o' : HO} {i : Nat} {s : SA} {v : V}, ss[i]? = some s → some p ∈ s → σ[i]? = some (some v) → SlsOk G B (upd H p o') σ (env.set i none) (ss.set i []) := fun {p o' i s v} e hp hv => by
    have q0 : SlsOk G B H σ (env.set i none) (ss.set i []) := S.sl.setE (s := []) (o := none) (v := some v) rfl hv
    refine q0.step (Ex.refl _) fun q hq => ⟨?_, fun z => z⟩
    have : q ≠ p := by
      rintro rfl
      exact not_mem_fl_set S.nd e hp (by simp) hq
    rw [upd_ne this]
  cases o with
  | d d => cases hg
  | «at» i =>
    unfold getC at hg
    cases he : env[i]? with
    | none => simp [he] at hg
    | some o => cases o with
      | none => simp [he] at hg
      | some o => cases o with
        | ins c fs => simp [he] at hg
        | f y =>
          obtain ⟨v', s, e1, e2, a, rfl, hf⟩ := S.sl.get he
          rw [show σ[i]? = some (some v) from ho] at e1
          cases e1
          cases a with
          | none =>
            cases y with
            | fz d => simp [he] at hg
            | lst xs => exact hf.elim
            | dic xs => exact hf.elim
          | some p =>
            have hy : x = y := by
              cases y with
              | fz d => exact hf.elim
              | lst xs => simp [he] at hg; exact hg.symm
              | dic xs => simp [he] at hg; exact hg.symm
            subst hy
            have hv : v = .ref p := by
              cases x with
              | fz d => exact hf.elim
              | lst xs => exact hf.1
              | dic xs => exact hf.1
            have hp : p ∈ fl ss := mem_fl.mpr ⟨_, List.mem_of_getElem? e2, by simp⟩
            refine ⟨p, hv, hf, hp, fun x' o' hx' => ⟨⟨exk hp, ?_, S.nd⟩, stp hp⟩⟩
            have q1 := (base (o' := o') e2 (by simp) ho).setE (i := i) (o := some (.f x')) (s := [some p]) (v := some v) ⟨some p, rfl, hx'⟩ ho
            rw [List.set_set, List.set_set, set_self e2] at q1
            exact q1
  | fld i j =>
    unfold getC at hg
    cases he : env[i]? with
    | none => simp [he] at hg
    | some o => cases o with
      | none => simp [he] at hg
      | some o => cases o with
        | f y => simp [he] at hg
        | ins c fs =>
          simp only [he] at hg
          obtain ⟨v', s, e1, e2, p0, qs, dx, vs, rfl, rfl, hb, hp0, hl, hf⟩ := S.sl.get he
          obtain ⟨p, q, rfl, eq1, hj, hq⟩ := ho
          rw [e2] at eq1; cases eq1
          cases hx : fs[j]? with
          | none => simp [hx] at hg
          | some y =>
            obtain ⟨w, a, g1, g2, g3⟩ := hf.get hx
            have hy : x = y ∧ a = some p := by
              cases a with
              | none =>
                cases y with
                | fz d => simp [hx] at hg
                | lst xs => exact g3.elim
                | dic xs => exact g3.elim
              | some r =>
                refine ⟨?_, by rw [hq r (by simpa using g2)]⟩
                cases y with
                | fz d => exact g3.elim
                | lst xs => simp [hx] at hg; exact hg.symm
                | dic xs => simp [hx] at hg; exact hg.symm
            obtain ⟨rfl, rfl⟩ := hy
            have hw : w = .ref p := by
              cases x with
              | fz d => exact g3.elim
              | lst xs => exact g3.1
              | dic xs => exact g3.1
            subst hw
            have hmem : some p ∈ (some p0 :: qs : SA) := List.mem_cons_of_mem _ (List.mem_of_getElem? g2)
            have hp : p ∈ fl ss := mem_fl.mpr ⟨_, List.mem_of_getElem? e2, hmem⟩
            have nd0 := nodup_slot S.nd e2
            have nd1 : (p0 :: qs.filterMap id).Nodup := by simpa using nd0
            have hne : p0 ≠ p := by
              rintro rfl
              exact (List.nodup_cons.mp nd1).1 (by simpa using List.mem_of_getElem? g2)
            refine ⟨p, rfl, g3, hp, fun x' o' hx' => ⟨⟨exk hp, ?_, S.nd⟩, stp hp⟩⟩
            have q1 := (base (o' := o') e2 hmem e1).setE (i := i) (o := some (.ins c (fs.set j x'))) (s := some p0 :: qs) (v := some (.ref p0))
              ⟨p0, qs, dx, vs, rfl, rfl, hb, by rw [upd_ne hne]; exact hp0, hl, hf.setOwn hx' g1 g2 (List.nodup_cons.mp nd1).2⟩ e1
            rw [List.set_set, List.set_set, set_self e2] at q1
            simp only [putC, he]
            exact q1
/-! ### a method of a list that is ours -/
def isL : Option Fd → Bool
  | some (.lst _) => true
  | _ => false
def chk (b : Op → Env → Bool) (o : Op) : M Unit := fun env => if b o env = true then .ok () env else .fail
def mutM (g : Fd → List D → Option (Fd × D)) (m : M R) (ms : List (M R)) : M R := bnd (opd m) fun o => bnd (chk (fun o env => isL (getC env o)) o) fun _ => bnd (fargs ms) fun ds env => match getC env o with
  | none => .fail
  | some x => match g x ds with
    | none => .fail
    | some (x', d) => .ok (.d d) (putC env o x')
variable (G)
def RdMut (rd : V → List V → Hp → VK → Prop) (g : Fd → List D → Option (Fd × D)) : Prop :=
  ∀ B H p x ds vs x' d, Ex B H → FdOk G B H (.ref p) x (some p) → FrL G B vs ds → g x ds = some (x', d) → ∀ Q : VK, (∀ v o', FdOk G B (upd H p o') (.ref p) x' (some p) → Fr G B v d → Q v (upd H p o')) → rd (.ref p) vs H Q
variable {G}
theorem mut_fin {E : WX} {rd : V → List V → Hp → VK → Prop} {g : Fd → List D → Option (Fd × D)} (hr : RdMut G rd g) {B H : Hp} {σ : St} {env : Env} {ss : SS} {v : V} {vs : List V} {o : Op} {ds : List D} {Q : VK} (S : SR G B σ H env ss) (ho : OpRep G σ B H ss v o) (hv : FrL G B vs ds)
    (h : Ok G E σ B H ss ((fun env => match getC env o with | none => Res.fail | some x => match g x ds with | none => .fail | some (x', d) => .ok (R.d d) (putC env o x')) env) fun r _ B' H' ss' N => ∀ v s, s.filterMap id = N → RRep G σ B' H' ss' v r s → Q v H') : rd v vs H Q := by
  simp only at h
  cases hg : getC env o with
  | none => simp only [hg] at h; exact h.elim
  | some x =>
    simp only [hg] at h
    cases hx : g x ds with
    | none => simp only [hx] at h; exact h.elim
    | some q =>
      obtain ⟨x', d⟩ := q
      simp only [hx] at h
      obtain ⟨p, rfl, hf, hp, hw⟩ := cell_at S ho hg
      refine hr B H p x ds vs x' d S.ex hf hv hx Q fun w o' hf' hd => ?_
      obtain ⟨S', st'⟩ := hw x' o' hf'
      exact h B _ ss [] st' (Kp.refl _ _) S' (by simp) w [] rfl ⟨rfl, hd⟩
theorem tyV_list {K : PySem.W.Frag} {B H : Hp} {σ : St} {env : Env} {ss : SS} {v : V} {o : Op} (S : SR G B σ H env ss) (ho : OpRep G σ B H ss v o) (h : isL (getC env o) = true) : tyV K "list" v H := by
  cases hg : getC env o with
  | none => rw [hg] at h; cases h
  | some x =>
    obtain ⟨p, rfl, hf, _, _⟩ := cell_at S ho hg
    cases x with
    | fz d => exact hf.elim
    | dic d => rw [hg] at h; cases h
    | lst xs =>
      obtain ⟨_, _, vs, hp, _⟩ := hf
      exact .inl ⟨rfl, vs, SqL.of hp⟩
theorem tBM_mut {K : PySem.W.Frag} {E : WX} {rd : V → List V → Hp → VK → Prop} {g : Fd → List D → Option (Fd × D)} (hr : RdMut G rd g) {m : M R} {ms : List (M R)} {σ : St} {H : Hp} {Q : VK} (h : tE G E (mutM g m ms) σ H Q) : tBM K "list" rd (tE G E m) (tF G E (fargs ms)) σ H Q := by
  obtain ⟨B, env, ss, S, h⟩ := h
  refine opd_run S h fun o env1 v B1 H1 ss1 st kp S1 O1 h1 => ?_
  unfold bnd chk at h1
  by_cases hc : isL (getC env1 o) = true
  · simp only [hc, if_true] at h1
    refine ⟨tyV_list S1 O1 hc, B1, env1, ss1, S1, Ok_run (k := fun ds env => match getC env o with | none => Res.fail | some x => match g x ds with | none => .fail | some (x', d) => .ok (R.d d) (putC env o x')) h1 fun ds env2 B2 H2 ss2 N hm st2 kp2 S2 hN h2 vs hv => ?_⟩
    exact mut_fin hr S2 (O1.step st2.eb kp2) hv h2
  · simp only [hc] at h1; exact h1.elim
theorem tBM0_mut {K : PySem.W.Frag} {E : WX} {rd : V → List V → Hp → VK → Prop} {g : Fd → List D → Option (Fd × D)} (hr : RdMut G rd g) {m : M R} {σ : St} {H : Hp} {Q : VK} (h : tE G E (mutM g m []) σ H Q) : tBM0 K "list" rd (tE G E m) σ H Q := by
  obtain ⟨B, env, ss, S, h⟩ := h
  refine opd_run S h fun o env1 v B1 H1 ss1 st kp S1 O1 h1 => ?_
  unfold bnd chk fargs ret at h1
  by_cases hc : isL (getC env1 o) = true
  · simp only [hc, if_true] at h1
    exact ⟨tyV_list S1 O1 hc, mut_fin (E := E) hr S1 O1 .nil h1⟩
  · simp only [hc] at h1; exact h1.elim
/-! what the methods do -/
def gAppend : Fd → List D → Option (Fd × D)
  | .lst xs, [d] => if xs.length < 100000 then some (.lst (xs ++ [d]), .non) else none
  | _, _ => none
def gPop : Fd → List D → Option (Fd × D)
  | .lst xs, [] => xs[xs.length - 1]?.map fun d => (.lst xs.dropLast, d)
  | _, _ => none
def gPopAt : Fd → List D → Option (Fd × D)
  | .lst xs, [.int i] => if small62 i = true then ((seqIndex? i xs.length).bind fun k => xs[k]?.map fun d => (.lst (xs.eraseIdx k), d)) else none
  | _, _ => none
def gExtend : Fd → List D → Option (Fd × D)
  | .lst xs, [.lst ys] => if xs.length + ys.length < 100000 then some (.lst (xs ++ ys), .non) else none
  | _, _ => none
theorem rd_append : RdMut G rAppend gAppend := by
  intro B H p x ds vs x' d e hf hv hg Q k
  cases x with
  | lst xs =>
    obtain ⟨_, hb, ws, hp, l⟩ := hf
    cases hv with
    | nil => cases hg
    | cons f t =>
      cases t with
      | cons _ _ => cases hg
      | nil =>
        simp only [gAppend] at hg
        split at hg
        · rename_i hl
          cases hg
          exact ⟨p, ws, _, rfl, rfl, hp, lim_lt (by rw [l.length]; exact hl), k _ _ ⟨rfl, hb, _, upd_same, l.append (.cons f .nil)⟩ .non⟩
        · cases hg
  | _ => first | exact hf.elim | (cases hv <;> cases hg)
theorem rd_extend : RdMut G rExtend gExtend := by
  intro B H p x ds vs x' d e hf hv hg Q k
  cases x with
  | lst xs =>
    obtain ⟨_, hb, ws, hp, l⟩ := hf
    cases hv with
    | nil => cases hg
    | cons f t =>
      cases t with
      | cons _ _ => simp [gExtend] at hg
      | nil =>
        cases f with
        | lst hq lq =>
          simp only [gExtend] at hg
          split at hg
          · rename_i hl
            cases hg
            exact ⟨p, _, ws, _, rfl, rfl, hp, e _ _ hq, lim_le (by rw [l.length, lq.length]; exact hl), k _ _ ⟨rfl, hb, _, upd_same, l.append lq⟩ .non⟩
          · cases hg
        | _ => simp [gExtend] at hg
  | _ => first | exact hf.elim | (cases hv <;> simp [gExtend] at hg)
theorem rd_pop : RdMut G rPop gPop := by
  intro B H p x ds vs x' d e hf hv hg Q k
  cases x with
  | lst xs =>
    obtain ⟨_, hb, ws, hp, l⟩ := hf
    cases hv with
    | cons _ _ => cases hg
    | nil =>
      simp only [gPop, Option.map_eq_some_iff] at hg
      obtain ⟨d', hd, e2⟩ := hg
      cases e2
      obtain ⟨w, hw, fw⟩ := l.get hd
      exact ⟨p, ws, w, rfl, rfl, hp, by rw [l.length]; exact hw, k _ _ ⟨rfl, hb, _, upd_same, l.dropLast⟩ fw⟩
  | _ => first | exact hf.elim | (cases hv <;> cases hg)
theorem rd_popAt : RdMut G rPopAt gPopAt := by
  intro B H p x ds vs x' d e hf hv hg Q k
  cases x with
  | lst xs =>
    obtain ⟨_, hb, ws, hp, l⟩ := hf
    cases hv with
    | nil => cases hg
    | cons f t =>
      cases t with
      | cons _ _ => simp [gPopAt] at hg
      | nil =>
        cases f with
        | int i =>
          simp only [gPopAt] at hg
          split at hg
          · rename_i hs
            obtain ⟨s1, s2⟩ := small_and hs
            simp only [Option.bind_eq_some_iff, Option.map_eq_some_iff] at hg
            obtain ⟨j, hj, d', hd, e2⟩ := hg
            cases e2
            obtain ⟨w, hw, fw⟩ := l.get hd
            refine ⟨p, ws, i, j, w, rfl, rfl, hp, by omega, by omega, by rw [l.length]; exact hj, hw, k _ _ ⟨rfl, hb, _, upd_same, l.eraseIdx j⟩ fw⟩
          · cases hg
        | _ => simp [gPopAt] at hg
  | _ => first | exact hf.elim | (cases hv <;> simp [gPopAt] at hg)
section
variable {X : Cx} {E : WX} {o e : Expr} {es : List Expr} {apos cpos : Pos}
theorem je_bm {id : String} {name : Str} {rd : V → List V → Hp → VK → Prop} {g : Fd → List D → Option (Fd × D)} {m : M R} {ms : List (M R)} (slot : Slot "list" name id) (hty : typeOf (.builtin id) = pure (.type "method_descriptor")) (hm : MtR X id rd) (hr : RdMut G rd g) (ho : JE G X E o m) (ha : JF G X E (e :: es) ms)
    (hbase : attributeBase o name X.env (eval o X.env) = eval o X.env := by rfl)
    (hfew : ((backTo cpos (starEach (e :: es) X.env)).all (fun x => !x.1) && (backToKw cpos (keywordEach [] X.env)).all (fun x => x.1.isSome)
      && decide ((e :: es).length + ([] : List Keyword).length + (if ([] : List Keyword).isEmpty then 0 else 1) < 30)) = true := by rfl)
    (hline : (apos.endLine == cpos.line) = true := by rfl) (hs : starEach (e :: es) X.env = (false, eval e X.env) :: starEach es X.env := by rfl) (hplain : (backTo cpos (starEach es X.env)).any (·.1) = false := by rfl) :
    JE G X E (.Call (.Attribute o name apos) (e :: es) [] cpos) (mutM g m ms) :=
  pe_weak (pe_bm PySem.F.plainAttrs_list slot hty hm ho ha hbase hfew hline hs hplain) fun _ _ _ h => tBM_mut hr h
theorem je_bm0 {id : String} {name : Str} {rd : V → List V → Hp → VK → Prop} {g : Fd → List D → Option (Fd × D)} {m : M R} (slot : Slot "list" name id) (hty : typeOf (.builtin id) = pure (.type "method_descriptor")) (hm : MtR X id rd) (hr : RdMut G rd g) (ho : JE G X E o m)
    (hbase : attributeBase o name X.env (eval o X.env) = eval o X.env := by rfl) (hline : (apos.endLine == cpos.line) = true := by rfl) : JE G X E (.Call (.Attribute o name apos) [] [] cpos) (mutM g m []) :=
  pe_weak (pe_bm0 PySem.F.plainAttrs_list slot hty hm ho hbase hline) fun _ _ _ h => tBM0_mut hr h
end
end DV

set_option Elab.async false
set_option linter.all false
set_option maxRecDepth 100000
set_option maxHeartbeats 1000000
/-! DV8: what a def promises by its mirror; calls. -/
namespace DV
open PySem L2
variable {G : Cfg}
inductive FRes where
  | fail | ret (o : O) (outs : List O) | exc (x : Exn) (outs : List O)
abbrev Fn := List O → FRes
variable (G)
inductive OsOk (B H : Hp) : List V → List O → SS → Prop
  | nil : OsOk B H [] [] []
  | cons {v : V} {x : O} {s : SA} {vs : List V} {xs : List O} {ss : SS} : OOk G B H v x s → OsOk B H vs xs ss → OsOk B H (v :: vs) (x :: xs) (s :: ss)
/-- the promise: the arguments as the mirror wants them; behind it what the mirror says -/
def spF (n : Nat) (f : Fn) : Sp := fun vs H Q E => vs.length = n ∧ ∃ B os ss, Ex B H ∧ OsOk G B H vs os ss ∧ (fl ss).Nodup ∧ match f os with
  | .fail => False
  | .ret o outs => ∀ v B' H' ss' s, Step B H ss B' H' ss' → Kp (fun _ => True) ss ss' → Ex B' H' → OsOk G B' H' vs outs ss' → (fl ss').Nodup → FrshOk G B' H' ss' v o s → (∀ p, some p ∈ s → H p = none ∨ p ∈ fl ss) → Q v H'
  | .exc x outs => ∀ cls dx B' H' ss', Step B H ss B' H' ss' → Kp (fun _ => True) ss ss' → Ex B' H' → OsOk G B' H' vs outs ss' → (fl ss').Nodup → XRep G B' H' x cls dx → E cls dx H'
variable {G}
/-! ### arguments -/
inductive CA where
  | d (x : D) | at (i : Nat)
def ca1 (b : Bool) (m : M R) : M CA := if b = true then bnd m fun r => match r with
    | .at i => ret (.at i)
    | _ => failM
  else bnd (frz m) fun d => ret (.d d)
def cargs : List (Bool × M R) → M (List CA)
  | [] => ret []
  | (b, m) :: r => bnd (ca1 b m) fun a => bnd (cargs r) fun as => ret (a :: as)
/-- what is handed over; at most one thing of ours -/
def osOf (env : Env) : List CA → Option (List O)
  | [] => some []
  | .d x :: r => (osOf env r).map fun os => .f (.fz x) :: os
  | .at i :: r => match env[i]? with
    | some (some (.f (.fz _))) => none
    | some (some o) => if (r.all fun a => match a with | .d _ => true | _ => false) = true then (osOf env r).map fun os => o :: os else none
    | _ => none
def putO (env : Env) : List CA → List O → Env
  | .d _ :: r, _ :: os => putO env r os
  | .at i :: _, o :: _ => env.set i (some o)
  | _, _ => env
def ofO : O → R
  | .f (.fz d) => .d d
  | .f (.lst xs) => .lst xs
  | .f (.dic xs) => .dic xs
  | .ins c fs => .ins c fs
def runF (f : Fn) (as : List CA) : M R := fun env => match osOf env as with
  | none => .fail
  | some os => match f os with
    | .fail => .fail
    | .ret o outs => .ok (ofO o) (putO env as outs)
    | .exc x outs => .exc x (putO env as outs)
def callM (f : Fn) (ms : List (Bool × M R)) : M R := bnd (cargs ms) (runF f)
variable (G)
def CaRep (σ : St) (B : Hp) (v : V) : CA → Prop
  | .d x => Fr G B v x
  | .at i => σ[i]? = some (some v)
inductive CasRep (σ : St) (B : Hp) : List V → List CA → Prop
  | nil : CasRep σ B [] []
  | cons {v : V} {a : CA} {vs : List V} {as : List CA} : CaRep G σ B v a → CasRep σ B vs as → CasRep σ B (v :: vs) (a :: as)
def tCA (E : WX) (m : M (List CA)) : TA := fun σ H Q => ∃ B env ss, SR G B σ H env ss ∧ Ok G E σ B H ss (m env) fun as _ B' H' _ _ => ∀ vs, CasRep G σ B' vs as → Q vs H'
def JCA (X : Cx) (E : WX) (es : List Expr) (ms : List (Bool × M R)) : Prop := PA X es (tCA G E (cargs ms))
variable {G}
theorem CaRep.mono {σ : St} {B B' : Hp} {v : V} {a : CA} (e : Ex B B') (h : CaRep G σ B v a) : CaRep G σ B' v a := by
  cases a with
  | d x => exact Fr.mono e h
  | «at» i => exact h
theorem CasRep.mono {σ : St} {B B' : Hp} (e : Ex B B') : ∀ {vs : List V} {as : List CA}, CasRep G σ B vs as → CasRep G σ B' vs as
  | _, _, .nil => .nil
  | _, _, .cons h l => .cons (h.mono e) (CasRep.mono e l)
theorem CasRep.len {σ : St} {B : Hp} : ∀ {vs : List V} {as : List CA}, CasRep G σ B vs as → vs.length = as.length
  | _, _, .nil => rfl
  | _, _, .cons _ l => by simp [l.len]
theorem ca1_run {β : Type} {E : WX} {b : Bool} {m : M R} {k : CA → M β} {P : β → Env → Hp → Hp → SS → List Addr → Prop} {B H : Hp} {σ : St} {env : Env} {ss : SS} {Q : VK} (S : SR G B σ H env ss) (h : Ok G E σ B H ss (bnd (ca1 b m) k env) P)
    (hk : ∀ a env1 v B1 H1 ss1, Step B H ss B1 H1 ss1 → Kp (fun _ => True) ss ss1 → SR G B1 σ H1 env1 ss1 → CaRep G σ B1 v a → Ok G E σ B1 H1 ss1 (k a env1) P → Q v H1) : tE G E m σ H Q := by
  cases b with
  | true =>
    simp only [ca1, if_true, bnd_assoc] at h
    refine tE_run S h fun r env1 v s B1 H1 ss1 hm st kp S1 R1 hn h1 => ?_
    cases r with
    | «at» i => exact hk (.at i) env1 v B1 H1 ss1 st kp S1 R1.2 h1
    | _ => exact h1.elim
  | false =>
    simp only [ca1, Bool.false_eq_true, if_false, bnd_assoc] at h
    exact frz_run S h fun d env1 v B1 H1 ss1 st kp S1 f h1 => hk (.d d) env1 v B1 H1 ss1 st kp S1 f h1
section
variable {X : Cx} {E : WX} {e : Expr} {es : List Expr} {pos : Pos}
theorem jca_nil : JCA G X E [] [] := pa_weak pa_nil fun σ H Q ⟨B, env, ss, S, h⟩ => (show Ok G E σ B H ss (.ok [] env) _ from h).get S [] .nil
theorem jca_cons (b : Bool) {m : M R} {ms : List (Bool × M R)} (h : JE G X E e m) (hr : JCA G X E es ms) (hs : starEach (e :: es) X.env = (false, eval e X.env) :: starEach es X.env := by rfl) : JCA G X E (e :: es) ((b, m) :: ms) := by
  refine pa_weak (pa_cons h hr hs) fun σ H Q ⟨B, env, ss, S, h⟩ => ?_
  unfold cargs at h
  refine ca1_run S h fun a env1 v B1 H1 ss1 st kp S1 f h1 => ?_
  refine ⟨B1, env1, ss1, S1, Ok_run h1 fun as env2 B2 H2 ss2 N hm st2 kp2 S2 hN h2 vs hvs => ?_⟩
  exact (show Ok G E σ B2 H2 ss2 (.ok (a :: as) env2) _ from h2).get S2 (v :: vs) (.cons (f.mono st2.eb) hvs)
end
/-! ### the caller's side -/
theorem OsOk.step {B H B' H' : Hp} (eb : Ex B B') : ∀ {vs : List V} {xs : List O} {as : SS}, OsOk G B H vs xs as → (∀ p ∈ fl as, H' p = H p ∧ (B p = none → B' p = none)) → OsOk G B' H' vs xs as
  | _, _, _, .nil, _ => .nil
  | _, _, _, .cons h l, k => .cons (OOk.step eb h fun p e => k p (by rw [fl_cons]; simp [e])) (OsOk.step eb l fun p e => k p (by rw [fl_cons]; simp [e]))
/-- all arguments frozen -/
theorem os_plain {B H : Hp} {σ : St} {env : Env} : ∀ {vs : List V} {as : List CA} {os : List O}, CasRep G σ B vs as → (as.all fun a => match a with | .d _ => true | _ => false) = true → osOf env as = some os → ∃ ss, OsOk G B H vs os ss ∧ fl ss = [] ∧ ss.length = as.length ∧ ∀ outs, putO env as outs = env
  | _, _, os, .nil, _, e => by cases e; exact ⟨[], .nil, rfl, rfl, fun _ => rfl⟩
  | _, _, os, .cons (a := a) (as := as) h l, hp, e => by
    cases a with
    | «at» i => simp at hp
    | d x =>
      simp only [osOf, Option.map_eq_some_iff] at e
      obtain ⟨os', e', rfl⟩ := e
      obtain ⟨ss, h1, h2, h3, h4⟩ := os_plain (H := H) l (by simpa using hp) e'
      refine ⟨[none] :: ss, .cons ⟨none, rfl, h⟩ h1, by rw [fl_cons, h2]; rfl, by simp [h3], fun outs => ?_⟩
      cases outs with
      | nil => rfl
      | cons o outs => exact h4 outs
theorem OsOk.lenO {B H : Hp} : ∀ {vs : List V} {xs : List O} {as : SS}, OsOk G B H vs xs as → vs.length = xs.length ∧ as.length = xs.length
  | _, _, _, .nil => ⟨rfl, rfl⟩
  | _, _, _, .cons _ l => by simp [l.lenO.1, l.lenO.2]
theorem OOk.fzOf {B H : Hp} {v : V} {o : O} {s : SA} (h : OOk G B H v o s) : True := trivial
/-- the frame of one thing handed over: behind the call it lies in its slot again -/
structure HandOver (σ : St) (B H : Hp) (env : Env) (ss : SS) (as : List CA) (vs : List V) (os : List O) (sa : SS) : Prop where
  ok : OsOk G B H vs os sa
  nd : (fl sa).Nodup
  sub : ∀ p ∈ fl sa, p ∈ fl ss
  back : ∀ B' H' sa' outs, Step B H sa B' H' sa' → Kp (fun _ => True) sa sa' → Ex B' H' → OsOk G B' H' vs outs sa' → (fl sa').Nodup →
    ∃ ss', SR G B' σ H' (putO env as outs) ss' ∧ Step B H ss B' H' ss' ∧ Kp (fun _ => True) ss ss' ∧ ∀ p, (p ∉ fl sa' ∧ (H p = none ∨ p ∈ fl sa)) → p ∉ fl ss'
theorem hand_over {σ : St} {B H : Hp} {env : Env} {ss : SS} (S : SR G B σ H env ss) : ∀ {vs : List V} {as : List CA} {os : List O}, CasRep G σ B vs as → osOf env as = some os → ∃ sa, HandOver (G := G) σ B H env ss as vs os sa
  | _, _, _, .nil, e => by
    cases e
    refine ⟨[], .nil, by simp [fl], fun p hp => by simp [fl] at hp, fun B' H' sa' outs st kp ex ho hn => ?_⟩
    cases ho
    have fr : ∀ a o, H a = some o → H' a = some o := fun a o h => st.fr a o h (by simp [fl])
    have bn : ∀ a o, H a = some o → B a = none → B' a = none := fun a o h hb => st.bn a o h hb (by simp [fl])
    obtain ⟨S', st'⟩ := S.grow st.eb fr ex bn
    refine ⟨ss, S', st', Kp.refl _ _, fun p ⟨_, hp⟩ hq => ?_⟩
    obtain ⟨_, u, hu⟩ := S.sl.known p hq
    rcases hp with z | z
    · rw [hu] at z; cases z
    · simp [fl] at z
  | _, _, os, .cons (v := v) (a := a) (vs := vs) (as := as) h l, e => by
    cases a with
    | d x =>
      simp only [osOf, Option.map_eq_some_iff] at e
      obtain ⟨os', e', rfl⟩ := e
      obtain ⟨sa, h1, h2, h3, h4⟩ := hand_over S l e'
      refine ⟨[none] :: sa, .cons ⟨none, rfl, h⟩ h1, by rw [fl_cons]; simpa using h2, fun p hp => h3 p (by rw [fl_cons] at hp; simpa using hp), fun B' H' sa' outs st kp ex ho hn => ?_⟩
      cases ho with
      | @cons _ o s0 _ outs ss0 q qs =>
        have f0 : fl ([none] :: sa) = fl sa := by rw [fl_cons]; rfl
        have g0 : fl (s0 :: ss0) = s0.filterMap id ++ fl ss0 := fl_cons _ _
        have st' : Step B H sa B' H' ss0 := ⟨st.eb, fun a u ha hn => st.fr a u ha (by rw [f0]; exact hn), fun a u ha hb hn => st.bn a u ha hb (by rw [f0]; exact hn), fun a ha => by
          have := st.nw a (by rw [g0]; exact List.mem_append_right _ ha)
          rwa [f0] at this, st.kp⟩
        have kp' : Kp (fun _ => True) sa ss0 := fun i _ s hs => by
          obtain ⟨s', e1, e2⟩ := kp (i + 1) trivial s (by simpa using hs)
          exact ⟨s', by simpa using e1, e2⟩
        have hn' : (fl ss0).Nodup := by rw [g0] at hn; exact (List.nodup_append.mp hn).2.1
        obtain ⟨ss', r1, r2, r3, r4⟩ := h4 B' H' ss0 outs st' kp' ex qs hn'
        exact ⟨ss', r1, r2, r3, fun p ⟨hp1, hp2⟩ => r4 p ⟨fun z => hp1 (by rw [g0]; exact List.mem_append_right _ z), by rw [f0] at hp2; exact hp2⟩⟩
    | «at» i =>
      simp only [osOf] at e
      cases he : env[i]? with
      | none => simp [he] at e
      | some o => cases o with
        | none => simp [he] at e
        | some o =>
          obtain ⟨v', s, e1, e2, ho⟩ := S.sl.get he
          rw [show σ[i]? = some (some v) from h] at e1
          cases e1
          have e' : (as.all fun a => match a with | .d _ => true | _ => false) = true ∧ ∃ os', osOf env as = some os' ∧ os = o :: os' := by
            have rd : ∀ {c : Bool} {oo : Option (List O)}, (if c = true then oo else none) = some os → c = true ∧ oo = some os := by
              intro c oo h; cases c <;> simp at h ⊢; exact h
            cases o with
            | ins c fs =>
              simp only [he] at e
              obtain ⟨q1, q2⟩ := rd e
              rw [Option.map_eq_some_iff] at q2
              obtain ⟨os', z1, z2⟩ := q2
              exact ⟨q1, os', z1, z2.symm⟩
            | f x => cases x with
              | fz d => simp [he] at e
              | lst xs =>
                simp only [he] at e
                obtain ⟨q1, q2⟩ := rd e
                rw [Option.map_eq_some_iff] at q2
                obtain ⟨os', z1, z2⟩ := q2
                exact ⟨q1, os', z1, z2.symm⟩
              | dic xs =>
                simp only [he] at e
                obtain ⟨q1, q2⟩ := rd e
                rw [Option.map_eq_some_iff] at q2
                obtain ⟨os', z1, z2⟩ := q2
                exact ⟨q1, os', z1, z2.symm⟩
          obtain ⟨hpl, os', hos, rfl⟩ := e'
          obtain ⟨sa, p1, p2, p3, p4⟩ := os_plain (H := H) l hpl hos
          have f0 : fl (s :: sa) = s.filterMap id := by rw [fl_cons, p2, List.append_nil]
          have ins : ∀ p, some p ∈ s → p ∈ fl ss := fun p hp => mem_fl.mpr ⟨s, List.mem_of_getElem? e2, hp⟩
          refine ⟨s :: sa, .cons ho p1, by rw [f0]; exact nodup_slot S.nd e2, fun p hp => ins p (by rw [f0] at hp; simpa using hp), fun B' H' sa' outs st kp ex hos' hn => ?_⟩
          cases hos' with
          | @cons _ o' s' _ outs ss0 q qs =>
            have ks : KpS s s' := by
              obtain ⟨s'', z1, z2⟩ := kp 0 trivial s rfl
              cases z1; exact z2
            have nws : ∀ p, some p ∈ s' → some p ∈ s ∨ H p = none := fun p hp => by
              rcases st.nw p (by rw [fl_cons]; exact List.mem_append_left _ (by simpa using hp)) with z | z
              · rw [f0] at z; exact .inl (by simpa using z)
              · exact .inr z
            have out : ∀ p, p ∈ fl (ss.set i []) → H' p = H p ∧ (B p = none → B' p = none) := fun p hp => by
              have hps : some p ∉ s := fun z => not_mem_fl_set S.nd e2 z (by simp) hp
              have hpf : p ∉ fl (s :: sa) := by rw [f0]; simpa using hps
              have hin : p ∈ fl ss := (fl_set_sub e2 (by simp)).subset hp
              obtain ⟨_, u, hu⟩ := S.sl.known p hin
              exact ⟨by rw [hu, st.fr p u hu hpf], fun hb => st.bn p u hu hb hpf⟩
            have base : SlsOk G B' H' σ (env.set i none) (ss.set i []) := by
              have q0 : SlsOk G B H σ (env.set i none) (ss.set i []) := S.sl.setE (s := []) (o := none) (v := some v) rfl h
              exact q0.step st.eb out
            have q1 := base.setE (i := i) (o := some o') (s := s') (v := some v) q h
            rw [List.set_set, List.set_set] at q1
            have nd' : (fl (ss.set i s')).Nodup := by
              have n1 : (fl (ss.set i [])).Nodup := S.nd.sublist (fl_set_sub e2 (by simp))
              have n2 : (s'.filterMap id).Nodup := by rw [fl_cons] at hn; exact (List.nodup_append.mp hn).1
              have := nodup_fl_set (i := i) n1 n2 fun p hp hq => by
                rcases nws p hp with z | z
                · exact not_mem_fl_set S.nd e2 z (by simp) hq
                · obtain ⟨_, u, hu⟩ := S.sl.known p ((fl_set_sub e2 (by simp)).subset hq)
                  rw [hu] at z; cases z
              rwa [List.set_set] at this
            have mem' : ∀ p, p ∈ fl (ss.set i s') → some p ∈ s' ∨ p ∈ fl (ss.set i []) := fun p hp => by
              have e3 : ss.set i s' = (ss.set i []).set i s' := by rw [List.set_set]
              rw [e3] at hp
              exact mem_fl_set hp
            refine ⟨ss.set i s', ⟨ex, q1, nd'⟩, ⟨st.eb, fun a u ha hna => st.fr a u ha (fun z => hna (ins a (by rw [f0] at z; simpa using z))), fun a u ha hb hna => st.bn a u ha hb (fun z => hna (ins a (by rw [f0] at z; simpa using z))), fun a ha => ?_, st.kp⟩, kp_set e2 fun _ => ks, fun p ⟨hp1, hp2⟩ hq => ?_⟩
            · rcases mem' a ha with z | z
              · rcases nws a z with y | y
                · exact .inl (ins a y)
                · exact .inr y
              · exact .inl ((fl_set_sub e2 (by simp)).subset z)
            · rcases mem' p hq with z | z
              · exact hp1 (by rw [fl_cons]; exact List.mem_append_left _ (by simpa using z))
              · rcases hp2 with y | y
                · obtain ⟨_, u, hu⟩ := S.sl.known p ((fl_set_sub e2 (by simp)).subset z)
                  rw [hu] at y; cases y
                · rw [f0] at y
                  exact not_mem_fl_set S.nd e2 (by simpa using y) (by simp) z
theorem RRep.ofO {σ : St} {B H : Hp} {ss : SS} {v : V} {o : O} {s : SA} (h : FrshOk G B H ss v o s) : ∃ s', RRep G σ B H ss v (ofO o) s' ∧ s'.filterMap id = s.filterMap id := by
  cases o with
  | ins c fs => exact ⟨s, h, rfl⟩
  | f x => cases x with
    | lst xs => exact ⟨s, h, rfl⟩
    | dic xs => exact ⟨s, h, rfl⟩
    | fz d =>
      obtain ⟨⟨a, rfl, hf⟩, _, _⟩ := h
      cases a with
      | none => exact ⟨[], ⟨rfl, hf⟩, rfl⟩
      | some p => exact hf.elim
/-- a call, from the caller's side -/
theorem call_fin {E : WX} {n : Nat} {f : Fn} {B H : Hp} {σ : St} {env : Env} {ss : SS} {as : List CA} {vs : List V} {Q : VK} (S : SR G B σ H env ss) (hc : CasRep G σ B vs as) (hn : vs.length = n)
    (h : Ok G E σ B H ss (runF f as env) fun r _ B' H' ss' N => ∀ v s, s.filterMap id = N → RRep G σ B' H' ss' v r s → Q v H') : spF G n f vs H Q (WE E σ) := by
  unfold runF at h
  cases ho : osOf env as with
  | none => simp only [ho] at h; exact h.elim
  | some os =>
    simp only [ho] at h
    obtain ⟨sa, hh⟩ := hand_over S hc ho
    refine ⟨hn, B, os, sa, S.ex, hh.ok, hh.nd, ?_⟩
    cases hf : f os with
    | fail => simp only [hf] at h; exact h.elim
    | ret o outs =>
      simp only [hf] at h
      intro v B' H' sa' s st kp ex hok hnd hfr hs
      obtain ⟨ss', S', st', kp', dj⟩ := hh.back B' H' sa' outs st kp ex hok hnd
      have fr' : FrshOk G B' H' ss' v o s := ⟨hfr.1, fun p hp => dj p ⟨hfr.2.1 p hp, hs p hp⟩, hfr.2.2⟩
      obtain ⟨s', r1, r2⟩ := RRep.ofO (σ := σ) fr'
      refine h B' H' ss' (s'.filterMap id) st' kp' S' (fun a ha => ?_) v s' rfl r1
      rw [r2] at ha
      rcases hs a (by simpa using ha) with z | z
      · exact .inl z
      · exact .inr (hh.sub a z)
    | exc x outs =>
      simp only [hf] at h
      intro cls dx B' H' sa' st kp ex hok hnd xr
      obtain ⟨ss', S', st', kp', dj⟩ := hh.back B' H' sa' outs st kp ex hok hnd
      exact h cls dx B' H' ss' st' kp' S' xr
end DV

set_option Elab.async false
set_option linter.all false
set_option maxRecDepth 100000
set_option maxHeartbeats 1000000
/-! DV9: calls of defs, methods, classes; a def by its body. -/
namespace DV
open PySem L2 PySem.Spec PyProof.Rows
variable {G : Cfg}
theorem cargs_len : ∀ {ms : List (Bool × M R)} {env env' : Env} {as : List CA}, cargs ms env = .ok as env' → as.length = ms.length
  | [], env, env', as, h => by cases h; rfl
  | (b, m) :: r, env, env', as, h => by
    unfold cargs bnd at h
    cases h1 : ca1 b m env with
    | fail => simp only [h1] at h; cases h
    | exc x e => simp only [h1] at h; cases h
    | ok a e1 =>
      simp only [h1] at h
      cases h2 : cargs r e1 with
      | fail => simp only [h2] at h; cases h
      | exc x e => simp only [h2] at h; cases h
      | ok as' e2 =>
        simp only [h2, ret] at h
        cases h
        simp [cargs_len h2]
section
variable {X : Cx} {E : WX} {k : Nat} {f C : Addr} {fd : FuncData} {ps : List Str} {x m : Str} {p pos apos : Pos} {e o : Expr} {es : List Expr} {fn : Fn}
theorem je_call {ms : List (Bool × M R)} (F : FnOk X.prog X.w X.K X.mg X.base (L2.CX X.prog X.w) k f fd ps (spF G ps.length fn)) (hr : Room k X.A) (hm : X.mg x = some (.ref f)) (hk : PySem.W.keepIn X.K (.ref f) = true) (hb : Binds X.K fd ps []) (tk : Takes X E)
    (ha : JCA G X E (e :: es) ms) (hn : ms.length = ps.length := by rfl) (hg : Gl X x := by rfl) (hdb : (x == ("__debug__" : Str)) = false := by decide) (he : starEach (e :: es) X.env = (false, eval e X.env) :: starEach es X.env := by rfl) (hpl : (backTo pos (starEach es X.env)).any (·.1) = false := by rfl) :
    JE G X E (.Call (.Name x p) (e :: es) [] pos) (callM fn ms) := by
  refine pe_weak (pe_callS F hr hg hm hk hb (fun σ => passAt tk σ) ha hdb he hpl) fun σ H Q ⟨B, env, ss, S, h⟩ => ?_
  refine ⟨B, env, ss, S, Ok_run h fun as env1 B1 H1 ss1 N hm st kp S1 hN h1 vs hv => ?_⟩
  exact call_fin S1 hv (by rw [hv.len, cargs_len hm, hn]) h1
theorem je_call0 (F : FnOk X.prog X.w X.K X.mg X.base (L2.CX X.prog X.w) k f fd ps (spF G ps.length fn)) (hr : Room k X.A) (hm : X.mg x = some (.ref f)) (hk : PySem.W.keepIn X.K (.ref f) = true) (hb : Binds X.K fd ps []) (tk : Takes X E)
    (hn : 0 = ps.length := by rfl) (hg : Gl X x := by rfl) (hdb : (x == ("__debug__" : Str)) = false := by decide) : JE G X E (.Call (.Name x p) [] [] pos) (callM fn []) := by
  refine ⟨fun pins s σ H Q I ⟨B, env, ss, S, h⟩ => ?_⟩
  refine wpAny_Call_Name_kw (ld_glob I hg hm ?_ hdb)
  exact PySem.W.callWith_K0 I.kIn hk (run_fnS (us := []) (vs := []) F hr hb (passAt tk σ) I .nil (call_fin (n := ps.length) (as := []) S .nil hn h))
theorem nolook {c : Nat} {vs : List V} (h : m ∉ G.lay c) : ((G.lay c).zip vs).lookup m = none := by
  have go : ∀ (l : List Str) (vs : List V), m ∉ l → (l.zip vs).lookup m = none := by
    intro l
    induction l with
    | nil => intro vs _; simp
    | cons a l ih =>
      intro vs h
      cases vs with
      | nil => simp
      | cons v vs =>
        simp only [List.zip_cons_cons, List.lookup_cons]
        have hne : (m == a) = false := by simpa using fun z => h (by simp [z])
        rw [hne]
        exact ih vs (fun z => h (List.mem_cons_of_mem _ z))
  exact go _ _ h
/-- the receiver: a thing of ours of the class c -/
def isI (c : Nat) (env : Env) : CA → Bool
  | .at i => match env[i]? with
    | some (some (.ins c' _)) => c' == c
    | _ => false
  | _ => false
def methM (c : Nat) (f : Fn) (m : M R) (ms : List (Bool × M R)) : M R := bnd (ca1 true m) fun a => fun env => if isI c env a = true then bnd (cargs ms) (fun as => runF f (a :: as)) env else .fail
theorem isI_ok {B H : Hp} {σ : L2.St} {env : Env} {ss : SS} {v : V} {a : CA} {c : Nat} (S : SR G B σ H env ss) (hc : CaRep G σ B v a) (h : isI c env a = true) : ∃ p dx vs, v = .ref p ∧ H p = some (.ins (G.cA c) dx ((G.lay c).zip vs)) := by
  cases a with
  | d x => cases h
  | «at» i =>
    unfold isI at h
    cases he : env[i]? with
    | none => simp [he] at h
    | some o => cases o with
      | none => simp [he] at h
      | some o => cases o with
        | f x => simp [he] at h
        | ins c' fs =>
          have hcc : c' = c := by simpa [he] using h
          subst hcc
          obtain ⟨v', s, e1, e2, p, qs, dx, vs, rfl, rfl, hb, hp, hl, hf⟩ := S.sl.get he
          rw [show σ[i]? = some (some v) from hc] at e1
          cases e1
          exact ⟨p, dx, vs, rfl, hp⟩
theorem je_meth (c : Nat) {mo : M R} {ms : List (Bool × M R)} {pl : Sem Bool} (he : JE G X E o mo) (cl : Cls X.K (G.cA c)) (hm : Meth X.K (G.cA c) m f) (F : FnOk X.prog X.w X.K X.mg X.base (L2.CX X.prog X.w) k f fd ps (spF G ps.length fn)) (hr : Room k X.A) (hb : Binds X.K fd ps []) (tk : Takes X E) (ha : JCA G X E (e :: es) ms)
    (hno : m ∉ G.lay c) (hn : ms.length + 1 = ps.length := by rfl) (hst : starEach (e :: es) X.env = (false, eval e X.env) :: starEach es X.env := by rfl) (hpl : (backTo pos (starEach es X.env)).any (·.1) = false := by rfl)
    (ht : eval (.Call (.Attribute o m apos) (e :: es) [] pos) X.env = (do
      let ov ← eval o X.env
      standAt apos.atName
      let (f, first) ← holding [ov] (getMethod ov m pl)
      callWith pos f first (backTo pos (starEach (e :: es) X.env)) (backToKw pos (keywordEach [] X.env))) := by rfl) :
    JE G X E (.Call (.Attribute o m apos) (e :: es) [] pos) (methM c fn mo ms) := by
  refine ⟨fun pins s σ H Q I ⟨B, env, ss, S, h⟩ => ?_⟩
  have hev : tE G E mo σ H fun v H1 => ∃ a B1 env1 ss1, SR G B1 σ H1 env1 ss1 ∧ CaRep G σ B1 v a ∧ isI c env1 a = true ∧ Ok G E σ B1 H1 ss1 (bnd (cargs ms) (fun as => runF fn (a :: as)) env1) (fun r _ B' H' ss' N => ∀ v s, s.filterMap id = N → RRep G σ B' H' ss' v r s → Q v H') := by
    unfold methM at h
    refine ca1_run S h fun a env1 v B1 H1 ss1 st kp S1 f h1 => ?_
    by_cases hi : isI c env1 a = true
    · simp only [hi, if_true] at h1
      exact ⟨a, B1, env1, ss1, S1, f, hi, h1⟩
    · simp only [hi] at h1; exact h1.elim
  refine PySem.W.methodCall_KW (pl := pl) (thn (he.run pins s σ H _ I hev) fun u s1 ⟨xv, H1, I1, rx, a, B1, env1, ss1, S1, hca, hi, h1⟩ => ?_) ht
  obtain ⟨q, dx, vs, rfl, hp⟩ := isI_ok S1 hca hi
  obtain rfl : u = Value.ref q := rx
  refine getmeth_ok I1 hp cl hm (nolook hno) ?_
  have hargs : tCA G E (cargs ms) σ H1 fun vs H2 => spF G ps.length fn (.ref q :: vs) H2 Q (WE E σ) := by
    refine ⟨B1, env1, ss1, S1, Ok_run h1 fun as env2 B2 H2 ss2 N hm2 st2 kp2 S2 hN h2 vs hv => ?_⟩
    exact call_fin S2 (.cons (hca.mono st2.eb) hv) (by simp [hv.len, cargs_len hm2, ← hn]) h2
  refine PySem.W.callWith_K (first := [.ref q]) (h₀ := X.base) I.ok.mod.kin hm.kp (thn (ha.run pos pins s1 σ H1 _ I1 hargs) fun us s2 ⟨vs, H2, I2, r, q2⟩ => ⟨I2.kIn, ?_⟩) hst hpl
  exact run_fnS (us := .ref q :: us) (vs := .ref q :: vs) F hr hb (passAt tk σ) I2 (.cons rfl r) q2
theorem je_meth0 (c : Nat) {mo : M R} {pl : Sem Bool} (he : JE G X E o mo) (cl : Cls X.K (G.cA c)) (hm : Meth X.K (G.cA c) m f) (F : FnOk X.prog X.w X.K X.mg X.base (L2.CX X.prog X.w) k f fd ps (spF G ps.length fn)) (hr : Room k X.A) (hb : Binds X.K fd ps []) (tk : Takes X E)
    (hno : m ∉ G.lay c) (hn : 1 = ps.length := by rfl)
    (ht : eval (.Call (.Attribute o m apos) [] [] pos) X.env = (do
      let ov ← eval o X.env
      standAt apos.atName
      let (f, first) ← holding [ov] (getMethod ov m pl)
      callWith pos f first (backTo pos (starEach [] X.env)) (backToKw pos (keywordEach [] X.env))) := by rfl) :
    JE G X E (.Call (.Attribute o m apos) [] [] pos) (methM c fn mo []) := by
  refine ⟨fun pins s σ H Q I ⟨B, env, ss, S, h⟩ => ?_⟩
  have hev : tE G E mo σ H fun v H1 => ∃ a B1 env1 ss1, SR G B1 σ H1 env1 ss1 ∧ CaRep G σ B1 v a ∧ isI c env1 a = true ∧ Ok G E σ B1 H1 ss1 (runF fn [a] env1) (fun r _ B' H' ss' N => ∀ v s, s.filterMap id = N → RRep G σ B' H' ss' v r s → Q v H') := by
    unfold methM at h
    refine ca1_run S h fun a env1 v B1 H1 ss1 st kp S1 f h1 => ?_
    by_cases hi : isI c env1 a = true
    · simp only [hi, if_true] at h1
      exact ⟨a, B1, env1, ss1, S1, f, hi, h1⟩
    · simp only [hi] at h1; exact h1.elim
  refine PySem.W.methodCall_KW (pl := pl) (thn (he.run pins s σ H _ I hev) fun u s1 ⟨xv, H1, I1, rx, a, B1, env1, ss1, S1, hca, hi, h1⟩ => ?_) ht
  obtain ⟨q, dx, vs, rfl, hp⟩ := isI_ok S1 hca hi
  obtain rfl : u = Value.ref q := rx
  refine getmeth_ok I1 hp cl hm (nolook hno) ?_
  exact PySem.W.callWith_K0 (first := [.ref q]) I1.kIn hm.kp (run_fnS (us := [.ref q]) (vs := [.ref q]) F hr hb (passAt tk σ) I1 (.cons rfl .nil) (call_fin S1 (.cons hca .nil) hn h1))
/-! ### a new instance -/
def fzs (ds : List D) : List O := ds.map fun d => .f (.fz d)
def makeM (c : Nat) (f : Fn) (ms : List (M R)) : M R := bnd (fargs ms) fun ds env => match f (.ins c [] :: fzs ds) with
  | .ret (.f (.fz .non)) (.ins c' fs :: _) => if c' = c then .ok (.ins c fs) env else .fail
  | .exc x _ => .exc x env
  | _ => .fail
theorem fargs_len : ∀ {ms : List (M R)} {env env' : Env} {ds : List D}, fargs ms env = .ok ds env' → ds.length = ms.length
  | [], env, env', ds, h => by cases h; rfl
  | m :: r, env, env', ds, h => by
    unfold fargs bnd at h
    cases h1 : frz m env with
    | fail => simp only [h1] at h; cases h
    | exc x e => simp only [h1] at h; cases h
    | ok a e1 =>
      simp only [h1] at h
      cases h2 : fargs r e1 with
      | fail => simp only [h2] at h; cases h
      | exc x e => simp only [h2] at h; cases h
      | ok as' e2 =>
        simp only [h2, ret] at h
        cases h
        simp [fargs_len h2]
theorem fzs_ok {B H : Hp} : ∀ {vs : List V} {ds : List D}, FrL G B vs ds → ∃ sa, OsOk G B H vs (fzs ds) sa ∧ fl sa = []
  | _, _, .nil => ⟨[], .nil, rfl⟩
  | _, _, .cons h l => by
    obtain ⟨sa, h1, h2⟩ := fzs_ok (H := H) l
    exact ⟨[none] :: sa, .cons ⟨none, rfl, h⟩ h1, by rw [fl_cons, h2]; rfl⟩
theorem make_fin {c n : Nat} {B H : Hp} {σ : L2.St} {env : Env} {ss : SS} {ds : List D} {vs : List V} {Q : VK} (S : SR G B σ H env ss) (hv : FrL G B vs ds) (hn : ds.length + 1 = n)
    (h : Ok G E σ B H ss ((fun env => match fn (.ins c [] :: fzs ds) with | .ret (.f (.fz .non)) (.ins c' fs :: _) => if c' = c then Res.ok (R.ins c fs) env else .fail | .exc x _ => .exc x env | _ => .fail) env) fun r _ B' H' ss' N => ∀ v s, s.filterMap id = N → RRep G σ B' H' ss' v r s → Q v H') :
    ∀ x dx, H x = none → H dx = none → dx ≠ x → spF G n fn (.ref x :: vs) (upd (upd H dx (.own x)) x (.ins (G.cA c) dx [])) (fun v H2 => v = .non ∧ Q (.ref x) H2) (WE E σ) := by
  intro x dx hx hdx hne
  have h0 : ∀ a o, H a = some o → (upd (upd H dx (.own x)) x (.ins (G.cA c) dx [])) a = some o := fun a o ha => by
    rw [upd_ne (ne_of_none ha hx), upd_ne (ne_of_none ha hdx)]; exact ha
  have exB : Ex B (upd (upd H dx (.own x)) x (.ins (G.cA c) dx [])) := fun a o ha => h0 a o (S.ex a o ha)
  have hbx : B x = none := S.ex.back hx
  obtain ⟨sa, ho, hf⟩ := fzs_ok (H := upd (upd H dx (.own x)) x (.ins (G.cA c) dx [])) hv
  refine ⟨by simp [hv.length, hn], B, .ins c [] :: fzs ds, [some x] :: sa, exB, .cons ⟨x, [], dx, [], rfl, rfl, hbx, by simp [upd_same], Nat.zero_le _, .nil⟩ ho, by rw [fl_cons, hf]; simp, ?_⟩
  have f0 : fl ([some x] :: sa) = [x] := by rw [fl_cons, hf]; simp
  -- behind __init__, for the caller
  have fin : ∀ {B' H' : Hp} {sa' : SS}, Step B (upd (upd H dx (.own x)) x (.ins (G.cA c) dx [])) ([some x] :: sa) B' H' sa' → Ex B' H' → SR G B' σ H' env ss ∧ Step B H ss B' H' ss := by
    intro B' H' sa' st ex
    have fr : ∀ a o, H a = some o → H' a = some o := fun a o ha => st.fr a o (h0 a o ha) (by rw [f0]; simpa using ne_of_none ha hx)
    have bn : ∀ a o, H a = some o → B a = none → B' a = none := fun a o ha hb => st.bn a o (h0 a o ha) hb (by rw [f0]; simpa using ne_of_none ha hx)
    exact S.grow st.eb fr ex bn
  simp only at h
  cases hr : fn (.ins c [] :: fzs ds) with
  | fail => rw [hr] at h; exact h.elim
  | exc xx outs =>
    rw [hr] at h
    intro cls d B' H' sa' st kp ex hok hnd xr
    obtain ⟨S', st'⟩ := fin st ex
    exact h cls d B' H' ss st' (Kp.refl _ _) S' xr
  | ret o outs =>
    intro v B' H' sa' s st kp ex hok hnd hfr hs
    rw [hr] at h
    have : o = .f (.fz .non) ∧ ∃ fs r, outs = .ins c fs :: r ∧ Ok G E σ B H ss (.ok (R.ins c fs) env) fun r _ B' H' ss' N => ∀ v s, s.filterMap id = N → RRep G σ B' H' ss' v r s → Q v H' := by
      split at h
      · rename_i c' fs r e
        cases e
        by_cases hc : c' = c
        · subst hc
          rw [if_pos rfl] at h
          exact ⟨rfl, fs, r, rfl, h⟩
        · rw [if_neg hc] at h
          exact False.elim h
      · rename_i e; cases e
      · exact False.elim h
    obtain ⟨rfl, fs, r, rfl, h9⟩ := this
    obtain ⟨S', st'⟩ := fin st ex
    have hv0 : v = .non := by
      obtain ⟨⟨a, rfl, hf0⟩, _, _⟩ := hfr
      cases a with
      | none => cases hf0; rfl
      | some p => exact hf0.elim
    refine ⟨hv0, ?_⟩
    cases hok with
    | @cons _ _ s0 _ _ ss0 q qs =>
      have hin : ∀ p, some p ∈ s0 → p = x ∨ H p = none := fun p hp => by
        rcases st.nw p (by rw [fl_cons]; exact List.mem_append_left _ (by simpa using hp)) with z | z
        · rw [f0] at z; exact .inl (by simpa using z)
        · right
          cases e : H p with
          | none => rfl
          | some o => rw [h0 p o e] at z; cases z
      have hn0 : ∀ p, some p ∈ s0 → H p = none := fun p hp => (hin p hp).elim (fun z => z ▸ hx) id
      refine h9 B' H' ss (s0.filterMap id) st' (Kp.refl _ _) S' (fun a ha => .inl (hn0 a (by simpa using ha))) (.ref x) s0 rfl ⟨q, fun p hp hq => ?_, by rw [fl_cons] at hnd; exact (List.nodup_append.mp hnd).1⟩
      obtain ⟨_, u, hu⟩ := S.sl.known p hq
      rw [hn0 p hp] at hu; cases hu
theorem run_makeS {n : Nat} {pins : List (Addr × Obj)} {σ : L2.St} {H : Hp} {s : Shared} {Q : VK} {us : List Value} {vs : List V} {Es : L2.St → XK} (M : Mk X.K C f) (F : FnOk X.prog X.w X.K X.mg X.base (L2.CX X.prog X.w) k f fd ps (spF G n fn)) (hr : Room (k + 1) X.A) (hb : Binds X.K fd ps [])
    (hx : PassesAt (L2.CX X.prog X.w) X σ (Es σ)) (I : Inv X pins σ H s) (r : Vals vs us)
    (h : ∀ x dx, H x = none → H dx = none → dx ≠ x → spF G n fn (.ref x :: vs) (upd (upd H dx (.own x)) x (.ins C dx [])) (fun v H2 => v = .non ∧ Q (.ref x) H2) (Es σ)) :
    wpAny (model X.prog X.w) X.A (call (.ref C) us) (EP X pins σ Q) X.xe s := by
  have hq := h (s.heap.objs.size + 1) s.heap.objs.size (I.hok.fresh (Nat.le_succ _)) (I.hok.fresh (Nat.le_refl _)) (Nat.ne_of_lt (Nat.lt_succ_self _))
  have I2 := Inv.made (C := C) I
  have r2 : Vals (V.ref (s.heap.objs.size + 1) :: vs) (Value.ref (s.heap.objs.size + 1) :: us) := .cons rfl r
  have hl : (Value.ref (s.heap.objs.size + 1) :: us).length = ps.length := by
    have e := r2.length
    rw [F.len _ _ _ _ hq] at e
    exact e.symm
  have hbd := hb _ (Value.ref (s.heap.objs.size + 1) :: us) I2.kIn (by rw [List.append_nil]; exact hl)
  rw [List.append_nil] at hbd
  refine wpAny_call (make_map (f := f) I.kIn M.makes M.init (beq_iff_eq.mp M.fn) (codeAny_mono (F.run _ X.stack _ _ ⟨Value.ref (s.heap.objs.size + 1) :: us, []⟩ (Value.ref (s.heap.objs.size + 1) :: us) _ _ (Es σ) (hr.make C us [])
    (I2.env0.make C us []) hbd r2 hq) fun r s' hq' => ?_))
  cases r with
  | error e => exact hx pins _ _ e s' I2 hq'
  | ok fl =>
    cases fl with
    | ret u =>
      obtain ⟨v, H', I3, rv, ev, q3⟩ := I2.after hq'
      subst ev
      exact ⟨rv, ⟨V.ref (s.heap.objs.size + 1), H', I3, rfl, q3⟩⟩
    | next => exact False.elim hq'
    | brk => exact False.elim hq'
    | cont => exact False.elim hq'
theorem je_make (c : Nat) {ms : List (M R)} (M : Mk X.K (G.cA c) f) (F : FnOk X.prog X.w X.K X.mg X.base (L2.CX X.prog X.w) k f fd ps (spF G ps.length fn)) (hr : Room (k + 1) X.A) (hm : X.mg x = some (.ref (G.cA c))) (hb : Binds X.K fd ps []) (tk : Takes X E)
    (ha : JF G X E (e :: es) ms) (hn : ms.length + 1 = ps.length := by rfl) (hg : Gl X x := by rfl) (hdb : (x == ("__debug__" : Str)) = false := by decide) (he : starEach (e :: es) X.env = (false, eval e X.env) :: starEach es X.env := by rfl) (hpl : (backTo pos (starEach es X.env)).any (·.1) = false := by rfl) :
    JE G X E (.Call (.Name x p) (e :: es) [] pos) (makeM c fn ms) := by
  refine ⟨fun pins s σ H Q I ⟨B, env, ss, S, h⟩ => ?_⟩
  refine wpAny_Call_Name_kw (ld_glob I hg hm ?_ hdb)
  have hargs : tF G E (fargs ms) σ H fun vs H2 => ∀ x dx, H2 x = none → H2 dx = none → dx ≠ x → spF G ps.length fn (.ref x :: vs) (upd (upd H2 dx (.own x)) x (.ins (G.cA c) dx [])) (fun v H3 => v = .non ∧ Q (.ref x) H3) (WE E σ) := by
    refine ⟨B, env, ss, S, Ok_run h fun ds env1 B1 H1 ss1 N hm1 st kp S1 hN h1 vs hv => ?_⟩
    exact make_fin S1 hv (by rw [fargs_len hm1, hn]) h1
  refine PySem.W.callWith_K (h₀ := X.base) I.ok.mod.kin M.kp (thn (ha.run pos pins s σ H _ I hargs) fun us s1 ⟨vs, H1, I1, r, q⟩ => ⟨I1.kIn, ?_⟩) he hpl
  exact run_makeS (Es := WE E) M F hr hb (passAt tk σ) I1 r q
end
end DV

set_option Elab.async false
set_option linter.all false
set_option maxRecDepth 100000
set_option maxHeartbeats 1000000
/-! DV10: a def by its body; fields; stores. -/
namespace DV
open PySem L2 PySem.Spec PyProof.Rows
variable {G : Cfg}
/-- what lies behind the call where the arguments lay: P, the places of what may be changed -/
def outsOf (P : List Nat) (env' : Env) : Nat → List O → Option (List O)
  | _, [] => some []
  | k, o :: r => match o with
    | .f (.fz d) => (outsOf P env' (k + 1) r).map fun os => .f (.fz d) :: os
    | _ => if k ∈ P then match env'[k]? with
        | some (some o') => (outsOf P env' (k + 1) r).map fun os => o' :: os
        | _ => none
      else none
def frO : O → O
  | .f (.lst xs) => .f (.fz (.lst xs))
  | .f (.dic xs) => .f (.fz (.dic xs))
  | o => o
def entry (n : Nat) (os : List O) : Env := os.map some ++ List.replicate (n - os.length) none
/-- a body, run: n names, the places P -/
def bodyF (n : Nat) (P : List Nat) (m : M Fl) : Fn := fun os => match m (entry n os) with
  | .ok (.rt o) e => match outsOf P e 0 os with
    | some outs => .ret o outs
    | none => .fail
  | .ok .nx e => match outsOf P e 0 os with
    | some outs => .ret (.f (.fz .non)) outs
    | none => .fail
  | .exc x e => match outsOf P e 0 os with
    | some outs => .exc x outs
    | none => .fail
  | _ => .fail
/-- the result frozen -/
def frF : FRes → FRes
  | .ret o outs => .ret (frO o) outs
  | r => r
theorem entry_ok {B H : Hp} {vs : List V} {os : List O} {ss : SS} {N : List Str} (h : OsOk G B H vs os ss) (hl : vs.length ≤ N.length) : SlsOk G B H (L2.start N vs) (entry N.length os) (ss ++ List.replicate (N.length - os.length) []) := by
  have tail : ∀ n, SlsOk G B H (List.replicate n none) (List.replicate n none) (List.replicate n []) := by
    intro n; induction n with
    | zero => exact .nil
    | succ n ih => exact .cons rfl ih
  have go : ∀ {vs : List V} {os : List O} {ss : SS} (n : Nat), OsOk G B H vs os ss → SlsOk G B H (vs.map some ++ List.replicate n none) (os.map some ++ List.replicate n none) (ss ++ List.replicate n []) := by
    intro vs os ss n h
    induction h with
    | nil => exact tail n
    | cons h l ih => exact .cons h ih
  unfold L2.start entry
  rw [h.lenO.1]
  exact go _ h
theorem fl_rep (n : Nat) : fl (List.replicate n []) = [] := by
  induction n with
  | zero => rfl
  | succ n ih => rw [List.replicate_succ, fl_cons, ih]; rfl
/-- the arguments behind the body -/
theorem outs_ok {B H B' H' : Hp} {σ σ' : L2.St} {P : List Nat} {env' : Env} {ss' : SS} (S : SR G B' σ' H' env' ss') (eb : Ex B B') (pn : Pin (fun i => i ∈ P) σ σ') : ∀ {vs : List V} {os outs : List O} {ss : SS} (k : Nat), OsOk G B H vs os ss → outsOf P env' k os = some outs → (∀ j v, vs[j]? = some v → σ[k + j]? = some (some v)) →
    (∀ j s, k + j ∈ P → ss[j]? = some s → ∃ s', ss'[k + j]? = some s' ∧ KpS s s') →
    ∃ sa, OsOk G B' H' vs outs sa ∧ (fl sa).Sublist (fl (ss'.drop k)) ∧ Kp (fun _ => True) ss sa
  | _, _, outs, _, k, .nil, e, _, _ => by
    cases e
    exact ⟨[], .nil, by simp [fl], Kp.refl _ _⟩
  | _, _, outs, _, k, .cons (v := v) (x := x) (s := s) (vs := vs) (xs := xs) (ss := ss) h l, e, hv, hk => by
    have drop_le : (fl (ss'.drop (k + 1))).Sublist (fl (ss'.drop k)) := by
      by_cases hlt : k < ss'.length
      · rw [List.drop_eq_getElem_cons hlt, fl_cons]
        exact List.sublist_append_right _ _
      · rw [List.drop_eq_nil_of_le (by omega), List.drop_eq_nil_of_le (by omega)]
        exact List.Sublist.refl _
    have rest : ∀ os', outsOf P env' (k + 1) xs = some os' → ∃ sa, OsOk G B' H' vs os' sa ∧ (fl sa).Sublist (fl (ss'.drop (k + 1))) ∧ Kp (fun _ => True) ss sa := fun os' e' =>
      outs_ok S eb pn (k + 1) l e' (fun j w hw => by have := hv (j + 1) w (by simpa using hw); rwa [show k + (j + 1) = k + 1 + j by omega] at this) (fun j s hj hs => by
        have := hk (j + 1) s (by rwa [show k + (j + 1) = k + 1 + j by omega]) (by simpa using hs)
        rwa [show k + (j + 1) = k + 1 + j by omega] at this)
    have own : (∀ d, x ≠ .f (.fz d)) → ∃ o' os', k ∈ P ∧ env'[k]? = some (some o') ∧ outsOf P env' (k + 1) xs = some os' ∧ outs = o' :: os' := by
      intro hx
      have e2 : (if k ∈ P then match env'[k]? with | some (some o') => (outsOf P env' (k + 1) xs).map fun os => o' :: os | _ => none else none) = some outs := by
        cases x with
        | ins c fs => exact e
        | f y => cases y with
          | fz d => exact absurd rfl (hx d)
          | lst ds => exact e
          | dic ds => exact e
      by_cases hp : k ∈ P
      · rw [if_pos hp] at e2
        cases he : env'[k]? with
        | none => simp [he] at e2
        | some o => cases o with
          | none => simp [he] at e2
          | some o' =>
            simp only [he, Option.map_eq_some_iff] at e2
            obtain ⟨os', z1, z2⟩ := e2
            exact ⟨o', os', hp, rfl, z1, z2.symm⟩
      · rw [if_neg hp] at e2; cases e2
    by_cases hx : ∃ d, x = .f (.fz d)
    · obtain ⟨d, rfl⟩ := hx
      simp only [outsOf, Option.map_eq_some_iff] at e
      obtain ⟨os', e', rfl⟩ := e
      obtain ⟨sa, r1, r2, r3⟩ := rest os' e'
      obtain ⟨a, rfl, hf⟩ := h
      cases a with
      | some p => exact hf.elim
      | none =>
        refine ⟨[none] :: sa, .cons ⟨none, rfl, Fr.mono eb hf⟩ r1, by rw [fl_cons]; simpa using r2.trans drop_le, fun j _ s hs => ?_⟩
        cases j with
        | zero => simp at hs; subst hs; exact ⟨[none], rfl, KpS.refl _⟩
        | succ j => simpa using r3 j trivial s (by simpa using hs)
    · obtain ⟨o', os', hp, he, e', rfl⟩ := own fun d z => hx ⟨d, z⟩
      obtain ⟨sa, r1, r2, r3⟩ := rest os' e'
      obtain ⟨v', s', q1, q2, q3⟩ := S.sl.get he
      have : v' = v := by
        have h1 := hv 0 v rfl
        have h2 := pn.at_ k hp
        rw [q1] at h2
        rw [show k + 0 = k from rfl] at h1
        rw [h1] at h2
        exact Option.some.inj (Option.some.inj h2)
      subst this
      obtain ⟨s2, z1, z2⟩ := hk 0 s (by simpa using hp) rfl
      rw [show k + 0 = k from rfl, q2] at z1
      cases z1
      have hlt : k < ss'.length := (List.getElem?_eq_some_iff.mp q2).1
      have hs' : ss'[k] = s' := by rw [List.getElem?_eq_getElem hlt] at q2; exact Option.some.inj q2
      refine ⟨s' :: sa, .cons q3 r1, ?_, fun j _ s0 hs => ?_⟩
      · rw [List.drop_eq_getElem_cons hlt, fl_cons, fl_cons, hs']
        exact (List.Sublist.refl _).append r2
      · cases j with
        | zero => simp at hs; subst hs; exact ⟨s', rfl, z2⟩
        | succ j => simpa using r3 j trivial s0 (by simpa using hs)
/-- THE RULE for a def: its body's mirror m, and a function that says the same, or the same with the result frozen -/
theorem fn_ok {P : Program} {w : World} {K : PySem.W.Frag} {mg : Str → Option Value} {base : Heap} {x qual : Str} {st : Stmt} {f : Addr} {fd : FuncData} {N ps : List Str} {k : Nat} (Pl : List Nat) {m : M Fl} {fn : Fn} (F : Fun K x qual st f fd) (Sc : FnScope N ps (defScope st)) (hN : ps.length ≤ N.length)
    (hfn : ∀ os, os.length = ps.length → fn os = .fail ∨ bodyF N.length Pl m os = fn os ∨ frF (bodyF N.length Pl m os) = fn os)
    (hb : ∀ (cdv : Value) (A : Around) (outer : List PySem.Env) (s : Shared) (H : Hp) (E : XK), Room k (A.deeper (envOfC qual (defScope st) s.heap.objs.size f cdv)) →
      JSs G (cxOf (L2.CX P w) P w K mg base N qual (defScope st) f cdv A outer s H E) (fun i => i ∈ Pl) (fun cls d _ H => E cls d H) (defBody st) m) :
    FnOk P w K mg base (L2.CX P w) (k + 1) f fd ps (spF G ps.length fn) := by
  refine F.okX Sc (fun vs H Q E h => h.1) fun cdv A outer s H vs Q E hr ⟨hlen, B, os, ss, ex, hok, nd, hm⟩ => ⟨_, hb cdv A outer s H E hr, ?_⟩
  have hlo := hok.lenO
  have f0 : fl (ss ++ List.replicate (N.length - os.length) []) = fl ss := by rw [fl_append, fl_rep, List.append_nil]
  have S0 : SR G B (L2.start N vs) H (entry N.length os) (ss ++ List.replicate (N.length - os.length) []) := ⟨ex, entry_ok hok (by omega), by rw [f0]; exact nd⟩
  refine ⟨B, _, _, S0, ?_⟩
  have hos : os.length = ps.length := by omega
  have stv : ∀ j v, vs[j]? = some v → (L2.start N vs)[0 + j]? = some (some v) := fun j v hj => by
    have hlt := (List.getElem?_eq_some_iff.mp hj).1
    unfold L2.start
    rw [Nat.zero_add, List.getElem?_append_left (by simpa using hlt), List.getElem?_map, hj]; rfl
  have ssv : ∀ {ss' : SS}, Kp (fun i => i ∈ Pl) (ss ++ List.replicate (N.length - os.length) []) ss' → ∀ j s, 0 + j ∈ Pl → ss[j]? = some s → ∃ s', ss'[0 + j]? = some s' ∧ KpS s s' := fun {ss'} kp j s hj hs => by
    refine kp (0 + j) hj s ?_
    rw [Nat.zero_add, List.getElem?_append_left (List.getElem?_eq_some_iff.mp hs).1]
    exact hs
  -- what lies behind
  have behind : ∀ {e : Env} {outs : List O} {σ' : L2.St} {B' H' : Hp} {ss' : SS}, outsOf Pl e 0 os = some outs → Step B H (ss ++ List.replicate (N.length - os.length) []) B' H' ss' → Kp (fun i => i ∈ Pl) (ss ++ List.replicate (N.length - os.length) []) ss' → Pin (fun i => i ∈ Pl) (L2.start N vs) σ' → SR G B' σ' H' e ss' →
      ∃ sa, Step B H ss B' H' sa ∧ Kp (fun _ => True) ss sa ∧ OsOk G B' H' vs outs sa ∧ (fl sa).Nodup ∧ ∀ p ∈ fl sa, p ∈ fl ss' := by
    intro e outs σ' B' H' ss' ho st kp pn S'
    obtain ⟨sa, q1, q2, q3⟩ := outs_ok S' st.eb pn 0 hok ho stv (ssv kp)
    rw [List.drop_zero] at q2
    exact ⟨sa, ⟨st.eb, fun a u h n => st.fr a u h (by rw [f0]; exact n), fun a u h hb n => st.bn a u h hb (by rw [f0]; exact n), fun a ha => by
      have := st.nw a (q2.subset ha)
      rwa [f0] at this, st.kp⟩, q3, q1, S'.nd.sublist q2, fun p hp => q2.subset hp⟩
  have frz2 : ∀ {B' H' : Hp} {sa : SS} {outs : List O} {v : V} {xx : Fd} {s' : SA}, Step B H ss B' H' sa → Ex B' H' → OsOk G B' H' vs outs sa → FrshOk G B' H' sa v (.f xx) s' → (∀ p, some p ∈ s' → H p = none ∨ p ∈ fl ss) → (∀ d, xx ≠ .fz d) →
      ∃ B2 d, frO (.f xx) = .f (.fz d) ∧ Step B H ss B2 H' sa ∧ Ex B2 H' ∧ OsOk G B2 H' vs outs sa ∧ FrshOk G B2 H' sa v (.f (.fz d)) [none] := by
    intro B' H' sa outs v xx s' st ex' ho hf hs hx
    obtain ⟨⟨a, rfl, h⟩, hd, _⟩ := hf
    cases a with
    | none =>
      cases xx with
      | fz d => exact absurd rfl (hx d)
      | lst ds => exact h.elim
      | dic ds => exact h.elim
    | some p =>
      obtain ⟨o, d, hp, hmm, hf, e1, e2⟩ := Fr.ofOwn ex' h
      have hps : p ∉ fl sa := hd p (by simp)
      refine ⟨upd B' p o, d, ?_, ⟨st.eb.trans e1, st.fr, fun a u ha hb hna => ?_, st.nw, st.kp⟩, e2, ho.step e1 fun q hq => ⟨rfl, fun hb => ?_⟩, ⟨⟨none, rfl, hf⟩, by simp, by simp⟩⟩
      · cases xx with
        | fz d => exact absurd rfl (hx d)
        | lst ds => cases hmm; rfl
        | dic ds => cases hmm; rfl
      · have hne : a ≠ p := by
          rintro rfl
          rcases hs a (by simp) with z | z
          · rw [ha] at z; cases z
          · exact hna z
        rw [upd_ne hne]; exact st.bn a u ha hb hna
      · rw [upd_ne (show q ≠ p by rintro rfl; exact hps hq)]; exact hb
  -- the ends
  have retE : ∀ {o : O} {outs : List O}, (FRes.ret o outs = fn os ∨ frF (FRes.ret o outs) = fn os) → ∀ v B' H' sa s', Step B H ss B' H' sa → Kp (fun _ => True) ss sa → Ex B' H' → OsOk G B' H' vs outs sa → (fl sa).Nodup → FrshOk G B' H' sa v o s' → (∀ p, some p ∈ s' → H p = none ∨ p ∈ fl ss) → Q v H' := by
    intro o outs hq v B' H' sa s' st kp ex' ho hn hf hs
    rcases hq with hq | hq
    · rw [← hq] at hm
      exact hm v B' H' sa s' st kp ex' ho hn hf hs
    · rw [← hq] at hm
      cases o with
      | ins c fs => exact hm v B' H' sa s' st kp ex' ho hn hf hs
      | f xx =>
        by_cases hx : ∃ d, xx = .fz d
        · obtain ⟨d, rfl⟩ := hx
          exact hm v B' H' sa s' st kp ex' ho hn hf hs
        · obtain ⟨B2, d, z1, z2, z3, z4, z5⟩ := frz2 st ex' ho hf hs fun d z => hx ⟨d, z⟩
          simp only [frF, z1] at hm
          exact hm v B2 H' sa [none] z2 kp z3 z4 hn z5 (by simp)
  cases hres : m (entry N.length os) with
  | fail =>
    have hbf : bodyF N.length Pl m os = .fail := by unfold bodyF; rw [hres]
    rcases hfn os hos with h | h | h
    · rw [h] at hm; exact hm.elim
    · rw [hbf] at h; rw [← h] at hm; exact hm.elim
    · rw [hbf] at h; rw [← h] at hm; exact hm.elim
  | exc xx e =>
    cases ho : outsOf Pl e 0 os with
    | none =>
      have hbf : bodyF N.length Pl m os = .fail := by unfold bodyF; rw [hres]; simp only [ho]
      rcases hfn os hos with h | h | h
      · rw [h] at hm; exact hm.elim
      · rw [hbf] at h; rw [← h] at hm; exact hm.elim
      · rw [hbf] at h; rw [← h] at hm; exact hm.elim
    | some outs =>
      have hbf : bodyF N.length Pl m os = .exc xx outs := by unfold bodyF; rw [hres]; simp only [ho]
      have hfe : fn os = .exc xx outs ∨ fn os = .fail := by
        rcases hfn os hos with h | h | h
        · exact .inr h
        · exact .inl (by rw [← h, hbf])
        · exact .inl (by rw [← h, hbf]; rfl)
      rcases hfe with h | h
      · rw [h] at hm
        intro cls dx σ' B' H' ss' st kp pn S' xr
        obtain ⟨sa, q1, q2, q3, q4, _⟩ := behind ho st kp pn S'
        exact hm cls dx B' H' sa q1 q2 S'.ex q3 q4 xr
      · rw [h] at hm; exact hm.elim
  | ok fl0 e =>
    have bad : bodyF N.length Pl m os = .fail → False := by
      intro hbf
      rcases hfn os hos with h | h | h
      · rw [h] at hm; exact hm.elim
      · rw [hbf] at h; rw [← h] at hm; exact hm.elim
      · rw [hbf] at h; rw [← h] at hm; exact hm.elim
    cases ho : outsOf Pl e 0 os with
    | none => exact (bad (by unfold bodyF; rw [hres]; cases fl0 <;> simp only [ho])).elim
    | some outs =>
      have good : ∀ o, bodyF N.length Pl m os = .ret o outs → (FRes.ret o outs = fn os ∨ frF (FRes.ret o outs) = fn os) := by
        intro o hbf
        rcases hfn os hos with h | h | h
        · rw [h] at hm; exact hm.elim
        · exact .inl (by rw [← h, hbf])
        · exact .inr (by rw [← h, hbf])
      cases fl0 with
      | bk => exact (bad (by unfold bodyF; rw [hres])).elim
      | ct => exact (bad (by unfold bodyF; rw [hres])).elim
      | nx =>
        intro σ' B' H' ss' st kp pn S'
        obtain ⟨sa, q1, q2, q3, q4, _⟩ := behind ho st kp pn S'
        exact retE (good (.f (.fz .non)) (by unfold bodyF; rw [hres]; simp only [ho])) .non B' H' sa [none] q1 q2 S'.ex q3 q4 ⟨⟨none, rfl, .non⟩, by simp, by simp⟩ (by simp)
      | rt o =>
        intro σ' B' H' ss' st kp pn S' v s' hf hs
        obtain ⟨sa, q1, q2, q3, q4, q5⟩ := behind ho st kp pn S'
        exact retE (good o (by unfold bodyF; rw [hres]; simp only [ho])) v B' H' sa s' q1 q2 S'.ex q3 q4 ⟨hf.1, fun p hp hq => hf.2.1 p hp (q5 p hq), hf.2.2⟩ (fun p hp => by have := hs p hp; rwa [f0] at this)
end DV

set_option Elab.async false
set_option linter.all false
set_option maxRecDepth 100000
set_option maxHeartbeats 1000000
/-! DV11: fields, stores by place. -/
namespace DV
open PySem L2
variable {G : Cfg}
/-! ### a field is read -/
def fldM (c j : Nat) (m : M R) : M R := bnd m fun r env => match r with
  | .at i => match env[i]? with
    | some (some (.ins c' fs)) => if c' = c then match fs[j]? with
        | some (.fz d) => .ok (.d d) env
        | some _ => .ok (.fld i j) env
        | none => .fail
      else .fail
    | _ => .fail
  | _ => .fail
theorem look_zip {f : Str} : ∀ {l : List Str} {vs : List V} {j : Nat} {v : V}, l.Nodup → l[j]? = some f → vs[j]? = some v → (l.zip vs).lookup f = some v
  | [], _, _, _, _, e, _ => by simp at e
  | a :: l, [], _, _, _, _, e => by simp at e
  | a :: l, w :: vs, 0, v, _, e, e2 => by
    simp at e e2; subst e; subst e2
    simp [List.lookup]
  | a :: l, w :: vs, j + 1, v, nd, e, e2 => by
    have hmem : f ∈ l := List.mem_of_getElem? (show l[j]? = some f by simpa using e)
    have hne : (f == a) = false := by
      have : f ≠ a := fun z => (List.nodup_cons.mp nd).1 (z ▸ hmem)
      simpa using this
    simp only [List.zip_cons_cons, List.lookup_cons, hne]
    exact look_zip (j := j) (List.nodup_cons.mp nd).2 (by simpa using e) (by simpa using e2)
theorem putF_zip {f : Str} {y : V} : ∀ {l : List Str} {vs : List V} {j : Nat}, l.Nodup → l[j]? = some f → (j = vs.length → putF f y (l.zip vs) = l.zip (vs ++ [y])) ∧ (j < vs.length → putF f y (l.zip vs) = l.zip (vs.set j y))
  | [], _, _, _, e => by simp at e
  | a :: l, [], 0, _, e => by
    simp at e; subst e
    exact ⟨fun _ => by simp [putF], fun h => by simp at h⟩
  | a :: l, [], j + 1, _, e => ⟨fun h => by simp at h, fun h => by simp at h⟩
  | a :: l, w :: vs, 0, nd, e => by
    simp at e; subst e
    exact ⟨fun h => by simp at h, fun _ => by simp [putF]⟩
  | a :: l, w :: vs, j + 1, nd, e => by
    have hmem : f ∈ l := List.mem_of_getElem? (show l[j]? = some f by simpa using e)
    have hne : ¬ a = f := fun z => (List.nodup_cons.mp nd).1 (z ▸ hmem)
    obtain ⟨h1, h2⟩ := putF_zip (f := f) (y := y) (l := l) (vs := vs) (j := j) (List.nodup_cons.mp nd).2 (by simpa using e)
    refine ⟨fun h => ?_, fun h => ?_⟩
    · simp only [List.zip_cons_cons, putF, if_neg hne, List.cons_append]
      rw [h1 (by simpa using h)]
    · simp only [List.zip_cons_cons, putF, if_neg hne, List.set_cons_succ]
      rw [h2 (by simpa using h)]
/-- what an instance in a slot looks like -/
theorem SR.insAt {B H : Hp} {σ : St} {env : Env} {ss : SS} {i c : Nat} {fs : List Fd} {v : V} (S : SR G B σ H env ss) (he : env[i]? = some (some (.ins c fs))) (hv : σ[i]? = some (some v)) :
    ∃ p qs dx vs, ss[i]? = some (some p :: qs) ∧ v = .ref p ∧ B p = none ∧ H p = some (.ins (G.cA c) dx ((G.lay c).zip vs)) ∧ vs.length ≤ (G.lay c).length ∧ FdsOk G B H vs fs qs := by
  obtain ⟨v', s, e1, e2, p, qs, dx, vs, rfl, rfl, hb, hp, hl, hf⟩ := S.sl.get he
  rw [hv] at e1; cases e1
  exact ⟨p, qs, dx, vs, e2, rfl, hb, hp, hl, hf⟩
section
variable {X : Cx} {pin : Nat → Prop} {E : WX} {e value : Expr} {pos pos' : Pos} {f : Str}
theorem je_fld (c j : Nat) {m : M R} (he : JE G X E e m) (hK : X.K = G.K) (cl : Cls G.K (G.cA c)) (na : NoAttr G.K (G.cA c) f) (hl : (G.lay c)[j]? = some f) (nd : (G.lay c).Nodup) (hb : attributeBase e f X.env (eval e X.env) = eval e X.env := by rfl) : JE G X E (.Attribute e f pos) (fldM c j m) := by
  refine pe_weak (pe_fld he hb) fun σ H Q ⟨B, env, ss, S, h⟩ => ?_
  unfold fldM at h
  refine tE_run S h fun r env1 v s B1 H1 ss1 hm st kp S1 R1 hn h1 => ?_
  cases r with
  | «at» i =>
    simp only at h1
    cases ho : env1[i]? with
    | none => simp only [ho] at h1; exact h1.elim
    | some o => cases o with
      | none => simp only [ho] at h1; exact h1.elim
      | some o => cases o with
        | f x => simp only [ho] at h1; exact h1.elim
        | ins c' fs =>
          simp only [ho] at h1
          by_cases hc : c' = c
          · subst hc
            rw [if_pos rfl] at h1
            obtain ⟨p, qs, dx, vs, e2, rfl, hbp, hp, hlen, hf⟩ := S1.insAt ho R1.2
            cases hx : fs[j]? with
            | none => simp only [hx] at h1; exact h1.elim
            | some x =>
              obtain ⟨w, a, g1, g2, g3⟩ := hf.get hx
              refine ⟨p, G.cA c', dx, _, w, rfl, hp, by rw [hK]; exact cl, by rw [hK]; exact na, look_zip nd hl g1, ?_⟩
              cases x with
              | fz d =>
                simp only [hx] at h1
                cases a with
                | some q => exact g3.elim
                | none => exact h1.get S1 w [] rfl ⟨rfl, g3⟩
              | lst xs =>
                simp only [hx] at h1
                cases a with
                | none => exact g3.elim
                | some q => exact h1.get S1 w [] rfl ⟨rfl, q, _, g3.1, e2, by simpa using g2⟩
              | dic xs =>
                simp only [hx] at h1
                cases a with
                | none => exact g3.elim
                | some q => exact h1.get S1 w [] rfl ⟨rfl, q, _, g3.1, e2, by simpa using g2⟩
          · rw [if_neg hc] at h1; exact h1.elim
  | _ => exact h1.elim
end
/-! ### a field is stored -/
def appF (c j i : Nat) (x : Fd) : M Unit := fun env => match env[i]? with
  | some (some (.ins c' fs)) => if c' = c ∧ j = fs.length then .ok () (env.set i (some (.ins c (fs ++ [x])))) else .fail
  | _ => .fail
def setFz (c j i : Nat) (d : D) : M Unit := fun env => match env[i]? with
  | some (some (.ins c' fs)) => if c' = c then (if j = fs.length then .ok () (env.set i (some (.ins c (fs ++ [.fz d])))) else if j < fs.length then .ok () (env.set i (some (.ins c (fs.set j (.fz d))))) else .fail) else .fail
  | _ => .fail
def setF (c j i : Nat) (r : R) : M Unit := match r with
  | .lst xs => appF c j i (.lst xs)
  | .dic xs => appF c j i (.dic xs)
  | r => bnd (frzR r) fun d => setFz c j i d
def stFM (c j : Nat) (mo mv : M R) : M Fl := bnd mv fun r => bnd mo fun ro => match ro with
  | .at i => bnd (setF c j i r) fun _ => ret .nx
  | _ => failM
theorem RRep.step {σ : St} {B H B' H' : Hp} {ss ss' : SS} {v : V} {r : R} {s : SA} (st : Step B H ss B' H' ss') (kp : Kp (fun _ => True) ss ss') (h : RRep G σ B H ss v r s) (hr : ∀ i j, r ≠ .fld i j) : RRep G σ B' H' ss' v r s := by
  have fresh : ∀ {o : O}, FrshOk G B H ss v o s → FrshOk G B' H' ss' v o s := fun {o} h => by
    refine ⟨OOk.step st.eb h.1 fun p hp => ?_, fun p hp hq => ?_, h.2.2⟩
    · obtain ⟨hb, u, hu⟩ := h.1.known p hp
      exact ⟨by rw [hu, st.fr p u hu (h.2.1 p hp)], fun _ => st.bn p u hu hb (h.2.1 p hp)⟩
    · obtain ⟨hb, u, hu⟩ := h.1.known p hp
      rcases st.nw p hq with z | z
      · exact h.2.1 p hp z
      · rw [hu] at z; cases z
  cases r with
  | d x => exact ⟨h.1, Fr.mono st.eb h.2⟩
  | lst xs => exact fresh h
  | dic xs => exact fresh h
  | ins c fs => exact fresh h
  | «at» i => exact h
  | fld i j => exact absurd rfl (hr i j)
theorem FdsOk.snoc {B H : Hp} {v : V} {x : Fd} {a : Option Addr} (h : FdOk G B H v x a) : ∀ {vs : List V} {xs : List Fd} {as : SA}, FdsOk G B H vs xs as → FdsOk G B H (vs ++ [v]) (xs ++ [x]) (as ++ [a])
  | _, _, _, .nil => .cons h .nil
  | _, _, _, .cons q l => .cons q (FdsOk.snoc h l)
theorem FdsOk.setAt {B H : Hp} {v : V} {d : D} (h : Fr G B v d) : ∀ {vs : List V} {xs : List Fd} {as : SA} {j : Nat}, FdsOk G B H vs xs as → FdsOk G B H (vs.set j v) (xs.set j (.fz d)) (as.set j none)
  | _, _, _, _, .nil => .nil
  | _, _, _, 0, .cons q l => .cons h l
  | _, _, _, j + 1, .cons q l => .cons q (FdsOk.setAt h l)
/-- an instance of ours gets another content -/
theorem SR.insSet {B H : Hp} {σ : St} {env : Env} {ss : SS} {i c : Nat} {fs' : List Fd} {v : V} {p dx : Addr} {qs qs' : SA} {vs' : List V} (S : SR G B σ H env ss) (hv : σ[i]? = some (some v)) (e2 : ss[i]? = some (some p :: qs)) (rv : v = .ref p) (hb : B p = none)
    (hl : vs'.length ≤ (G.lay c).length) (hf : FdsOk G B H vs' fs' qs') (hnew : ∀ q, some q ∈ qs' → some q ∈ qs ∨ q ∉ fl ss) (hnd : (qs'.filterMap id).Nodup) :
    SR G B σ (upd H p (.ins (G.cA c) dx ((G.lay c).zip vs'))) (env.set i (some (.ins c fs'))) (ss.set i (some p :: qs')) := by
  subst rv
  have hp : p ∈ fl ss := mem_fl.mpr ⟨_, List.mem_of_getElem? e2, by simp⟩
  have nd0 : (p :: qs.filterMap id).Nodup := by simpa using nodup_slot S.nd e2
  have nin : ∀ q, some q ∈ qs' → q ≠ p := fun q hq z => by
    subst z
    rcases hnew q hq with y | y
    · exact (List.nodup_cons.mp nd0).1 (by simpa using y)
    · exact y hp
  have base : SlsOk G B (upd H p (.ins (G.cA c) dx ((G.lay c).zip vs'))) σ (env.set i none) (ss.set i []) := by
    have q0 : SlsOk G B H σ (env.set i none) (ss.set i []) := S.sl.setE (s := []) (o := none) (v := some (.ref p)) rfl hv
    refine q0.step (Ex.refl _) fun q hq => ⟨?_, fun z => z⟩
    have : q ≠ p := by
      rintro rfl
      exact not_mem_fl_set S.nd e2 (by simp) (by simp) hq
    rw [upd_ne this]
  refine ⟨fun a u ha => by rw [upd_ne (ne_of_none ha hb)]; exact S.ex a u ha, ?_, ?_⟩
  · have q1 := base.setE (i := i) (o := some (.ins c fs')) (s := some p :: qs') (v := some (.ref p))
      ⟨p, qs', dx, vs', rfl, rfl, hb, upd_same, hl, hf.step (Ex.refl _) fun q hq => ⟨by rw [upd_ne (nin q hq)], fun z => z⟩⟩ hv
    rw [List.set_set, List.set_set] at q1
    exact q1
  · have n1 : (fl (ss.set i [])).Nodup := S.nd.sublist (fl_set_sub e2 (by simp))
    have n2 : ((some p :: qs' : SA).filterMap id).Nodup := by
      simp only [List.filterMap_cons, id]
      exact List.nodup_cons.mpr ⟨fun z => nin p (by simpa using z) rfl, hnd⟩
    have := nodup_fl_set (i := i) n1 n2 fun q hq hin => by
      have hsub : q ∈ fl ss := (fl_set_sub e2 (by simp)).subset hin
      rcases List.mem_cons.mp hq with z | z
      · cases z; exact not_mem_fl_set S.nd e2 (by simp) (by simp) hin
      · rcases hnew q z with y | y
        · exact not_mem_fl_set S.nd e2 (List.mem_cons_of_mem _ y) (by simp) hin
        · exact y hsub
    rwa [List.set_set] at this
theorem kps_app {s t : SA} : KpS s (s ++ t) := ⟨by simp, fun j p hj e => by rwa [List.getElem?_append_left hj] at e⟩
section
variable {X : Cx} {pin : Nat → Prop} {E : WX} {e value : Expr} {pos pos' : Pos} {f : Str}
theorem setF_ok {Z : Ends} {B H : Hp} {σ : St} {env : Env} {ss : SS} {r : R} {v y : V} {s : SA} {i c j : Nat} (S : SR G B σ H env ss) (R1 : RRep G σ B H ss y r s) (hv : σ[i]? = some (some v)) (hl : (G.lay c)[j]? = some f) (nd : (G.lay c).Nodup) (hsm : (G.lay c).length < 1000)
    {B0 H0 : Hp} {ss0 : SS} (st0 : Step B0 H0 ss0 B H ss) (kp0 : Kp (fun _ => True) ss0 ss) (hs : ∀ p, some p ∈ s → H0 p = none ∨ p ∈ fl ss0)
    (h : OkS G pin E σ B0 H0 ss0 (bnd (setF c j i r) (fun _ => ret .nx) env) Z) : ∃ p dx fs, v = .ref p ∧ H p = some (.ins (G.cA c) dx fs) ∧ fs.length < 1000 ∧ Z.nx σ (upd H p (.ins (G.cA c) dx (putF f y fs))) := by
  have hlen : j < (G.lay c).length := (List.getElem?_eq_some_iff.mp hl).1
  -- the end, for any way
  have fin : ∀ {B1 : Hp} {ss1 : SS} {env1 : Env} {c' : Nat} {fs fs' : List Fd} {xn : Fd} {an : Option Addr}, SR G B1 σ H env1 ss1 → Step B0 H0 ss0 B1 H ss1 → Kp (fun _ => True) ss0 ss1 → env1[i]? = some (some (.ins c' fs)) → c' = c →
      FdOk G B1 H y xn an → (∀ q, an = some q → q ∉ fl ss1 ∧ (H0 q = none ∨ q ∈ fl ss0)) → (j = fs.length ∧ fs' = fs ++ [xn] ∨ ∃ d, xn = .fz d ∧ j < fs.length ∧ fs' = fs.set j xn) → OkS G pin E σ B0 H0 ss0 (.ok .nx (env1.set i (some (.ins c fs')))) Z →
      ∃ p dx fs, v = .ref p ∧ H p = some (.ins (G.cA c) dx fs) ∧ fs.length < 1000 ∧ Z.nx σ (upd H p (.ins (G.cA c) dx (putF f y fs))) := by
    intro B1 ss1 env1 c' fs fs' xn an S1 st1 kp1 he hc hx han hw hz
    subst hc
    obtain ⟨p, qs, dx, vs, e2, rfl, hb, hp, hle, hf⟩ := S1.insAt he hv
    have hvl : vs.length = fs.length := hf.len.1
    have hpin : p ∈ fl ss1 := mem_fl.mpr ⟨_, List.mem_of_getElem? e2, by simp⟩
    refine ⟨p, dx, _, rfl, hp, ?_, ?_⟩
    · rw [List.length_zip]; omega
    · obtain ⟨pz1, pz2⟩ := putF_zip (f := f) (y := y) (vs := vs) nd hl
      have stp : ∀ {qs' : SA} {o : HO}, (∀ q, some q ∈ qs' → some q ∈ qs ∨ q ∉ fl ss1 ∧ (H0 q = none ∨ q ∈ fl ss0)) → Step B0 H0 ss0 B1 (upd H p o) (ss1.set i (some p :: qs')) := fun {qs' o} hq => by
        refine ⟨st1.eb, fun a u ha hna => ?_, st1.bn, fun a ha => ?_, fun a ha => ?_⟩
        · have : a ≠ p := by
            rintro rfl
            rcases st1.nw a hpin with z | z
            · exact hna z
            · rw [ha] at z; cases z
          rw [upd_ne this]; exact st1.fr a u ha hna
        · rcases mem_fl_set ha with z | z
          · rcases List.mem_cons.mp z with z | z
            · cases z; exact st1.nw p hpin
            · rcases hq a z with y | ⟨_, y⟩
              · exact st1.nw a (mem_fl.mpr ⟨_, List.mem_of_getElem? e2, List.mem_cons_of_mem _ y⟩)
              · exact y.symm
          · exact st1.nw a z
        · by_cases z : a = p
          · subst z; rw [upd_same]; simp
          · rw [upd_ne z]; exact st1.kp a ha
      rcases hw with ⟨hj, rfl⟩ | ⟨d, rfl, hj, rfl⟩
      · rw [pz1 (by rw [hvl]; exact hj)]
        have hq : ∀ q, some q ∈ qs ++ [an] → some q ∈ qs ∨ q ∉ fl ss1 ∧ (H0 q = none ∨ q ∈ fl ss0) := fun q hq => by
          rcases List.mem_append.mp hq with z | z
          · exact .inl z
          · exact .inr (han q (List.mem_singleton.mp z).symm)
        have ndq : (qs.filterMap id).Nodup := by
          have := nodup_slot S1.nd e2
          exact (List.nodup_cons.mp (show (p :: qs.filterMap id).Nodup by simpa using this)).2
        have hnd2 : ((qs ++ [an]).filterMap id).Nodup := by
          rw [List.filterMap_append]
          cases an with
          | none => simpa using ndq
          | some a =>
            refine List.nodup_append.mpr ⟨ndq, by simp, fun u hu w hw z => ?_⟩
            have : w = a := by simpa using hw
            subst this; subst z
            exact (han u rfl).1 (mem_fl.mpr ⟨_, List.mem_of_getElem? e2, List.mem_cons_of_mem _ (by simpa using hu)⟩)
        have S2 := S1.insSet (c := c') (dx := dx) (vs' := vs ++ [y]) (fs' := fs ++ [xn]) (qs' := qs ++ [an]) hv e2 rfl hb (by simp; omega) (hf.snoc hx) (fun q h => (hq q h).imp id fun z => z.1) hnd2
        refine hz σ _ _ _ (stp hq) ((kp1.trans (kp_set (P := fun _ => True) e2 fun _ => ?_)).weak fun _ _ => trivial) (Pin.refl _ _) S2
        exact kps_app (s := some p :: qs) (t := [an])
      · rw [pz2 (by rw [hvl]; exact hj)]
        have hq : ∀ q, some q ∈ qs.set j none → some q ∈ qs ∨ q ∉ fl ss1 ∧ (H0 q = none ∨ q ∈ fl ss0) := fun q hq => by
          rcases List.mem_or_eq_of_mem_set hq with z | z
          · exact .inl z
          · cases z
        have ndq : (qs.filterMap id).Nodup := by
          have := nodup_slot S1.nd e2
          exact (List.nodup_cons.mp (show (p :: qs.filterMap id).Nodup by simpa using this)).2
        cases an with
        | some q => exact hx.elim
        | none =>
          have S2 := S1.insSet (c := c') (dx := dx) (vs' := vs.set j y) (fs' := fs.set j (.fz d)) (qs' := qs.set j none) hv e2 rfl hb (by simpa using hle) (hf.setAt hx) (fun q h => (hq q h).imp id fun z => z.1) (ndq.sublist sub_set_none)
          refine hz σ _ _ _ (stp hq) ((kp1.trans (kp_set (P := fun _ => True) e2 fun _ => ?_)).weak fun _ _ => trivial) (Pin.refl _ _) S2
          have := kp_set_none (s := some p :: qs) (j := j + 1)
          simpa using this
  have app : ∀ {xn : Fd} {a : Addr}, (∀ d, xn ≠ .fz d) → FdOk G B H y xn (some a) → s = [some a] → a ∉ fl ss → OkS G pin E σ B0 H0 ss0 (bnd (appF c j i xn) (fun _ => ret .nx) env) Z → ∃ p dx fs, v = .ref p ∧ H p = some (.ins (G.cA c) dx fs) ∧ fs.length < 1000 ∧ Z.nx σ (upd H p (.ins (G.cA c) dx (putF f y fs))) := by
    intro xn a hne hx es ha h
    unfold bnd appF at h
    cases he : env[i]? with
    | none => simp only [he] at h; exact h.elim
    | some o => cases o with
      | none => simp only [he] at h; exact h.elim
      | some o => cases o with
        | f x => simp only [he] at h; exact h.elim
        | ins c' fs =>
          simp only [he] at h
          by_cases hc : c' = c ∧ j = fs.length
          · rw [if_pos hc] at h
            refine fin S st0 kp0 he hc.1 hx (fun q hq => ?_) (.inl ⟨hc.2, rfl⟩) h
            cases hq
            exact ⟨ha, hs a (by rw [es]; simp)⟩
          · rw [if_neg hc] at h; exact h.elim
  have frz : OkS G pin E σ B0 H0 ss0 (bnd (bnd (frzR r) fun d => setFz c j i d) (fun _ => ret .nx) env) Z → ∃ p dx fs, v = .ref p ∧ H p = some (.ins (G.cA c) dx fs) ∧ fs.length < 1000 ∧ Z.nx σ (upd H p (.ins (G.cA c) dx (putF f y fs))) := by
    intro h
    rw [bnd_assoc] at h
    unfold bnd at h
    cases hf : frzR r env with
    | fail => simp only [hf] at h; exact h.elim
    | exc x e => exact absurd hf frzR_exc
    | ok d env2 =>
      simp only [hf] at h
      obtain ⟨B2, ss2, S2, fr, kp2, st2⟩ := frzR_ok S R1 hf
      unfold setFz at h
      cases he : env2[i]? with
      | none => simp only [he] at h; exact h.elim
      | some o => cases o with
        | none => simp only [he] at h; exact h.elim
        | some o => cases o with
          | f x => simp only [he] at h; exact h.elim
          | ins c' fs =>
            simp only [he] at h
            by_cases hc : c' = c
            · rw [if_pos hc] at h
              by_cases hj : j = fs.length
              · rw [if_pos hj] at h
                exact fin S2 (st2 B0 H0 ss0 st0 hs) (kp0.trans kp2) he hc (xn := .fz d) (an := none) fr (fun q hq => nomatch hq) (.inl ⟨hj, rfl⟩) h
              · rw [if_neg hj] at h
                by_cases hj2 : j < fs.length
                · rw [if_pos hj2] at h
                  exact fin S2 (st2 B0 H0 ss0 st0 hs) (kp0.trans kp2) he hc (xn := .fz d) (an := none) fr (fun q hq => nomatch hq) (.inr ⟨d, rfl, hj2, rfl⟩) h
                · rw [if_neg hj2] at h; exact h.elim
            · rw [if_neg hc] at h; exact h.elim
  cases r with
  | lst xs =>
    obtain ⟨⟨a, rfl, hx⟩, hd, _⟩ := R1
    cases a with
    | none => exact hx.elim
    | some a => exact app (fun d => by simp) hx rfl (hd a (by simp)) h
  | dic xs =>
    obtain ⟨⟨a, rfl, hx⟩, hd, _⟩ := R1
    cases a with
    | none => exact hx.elim
    | some a => exact app (fun d => by simp) hx rfl (hd a (by simp)) h
  | d x => exact frz h
  | ins c' fs => exact frz h
  | «at» k => exact frz h
  | fld k l => exact frz h
theorem js_fld (c j : Nat) {mo mv : M R} (ho : JE G X E e mo) (hv : JE G X E value mv) (hK : X.K = G.K) (cl : Cls G.K (G.cA c)) (na : NoAttr G.K (G.cA c) f) (hl : (G.lay c)[j]? = some f) (nd : (G.lay c).Nodup) (hsm : (G.lay c).length < 1000)
    (hpl : ∀ env env' r, mv env = .ok r env' → ∀ i j, r ≠ .fld i j) (hs : swapsWith value (some (.Attribute e f pos')) pos.line X.env = pure false := by rfl) : JS G X pin E (.Assign [.Attribute e f pos'] value pos) (stFM c j mo mv) := by
  refine ps_weak (ps_fld ho hv hs) fun Z σ H ⟨B, env, ss, S, h⟩ => ?_
  unfold stFM at h
  refine tE_runS S h fun r env1 y s B1 H1 ss1 hm st kp S1 R1 hn h1 => ?_
  refine tE_runS S1 h1 fun ro env2 v s2 B2 H2 ss2 hm2 st2 kp2 S2 R2 hn2 h2 => ?_
  cases ro with
  | «at» i =>
    have R1' := R1.step st2 kp2 (hpl env env1 r hm)
    have h0 : OkS G pin E σ B H ss (bnd (setF c j i r) (fun _ => ret .nx) env2) Z := by
      have q := h
      unfold bnd at q
      simp only [hm] at q
      simp only [hm2] at q
      exact q
    obtain ⟨p, dx, fs, e1, e2, e3, e4⟩ := setF_ok (pin := pin) (E := E) S2 R1' R2.2 hl nd hsm (st.trans st2) (kp.trans kp2) (fun p hp => hn p hp) h0
    exact ⟨p, G.cA c, dx, fs, e1, e2, by rw [hK]; exact cl, by rw [hK]; exact na, e3, e4⟩
  | _ => exact h2.elim
end
end DV

set_option Elab.async false
set_option linter.all false
set_option maxRecDepth 100000
set_option maxHeartbeats 1000000
/-! DV12: what the built-in operations do with values. -/
namespace DV
open PySem L2
variable {G : Cfg}
/-! ### views of each kind -/
theorem vw_non {B H : Hp} {v : V} (h : Vw G B H v .non) : v = .non := by cases h with | fr f => cases f; rfl
theorem vw_bl {B H : Hp} {v : V} {b : Bool} (h : Vw G B H v (.bl b)) : v = .bl b := by cases h with | fr f => cases f; rfl
theorem vw_int {B H : Hp} {v : V} {i : Int} (h : Vw G B H v (.int i)) : v = .int i := by cases h with | fr f => cases f; rfl
theorem vw_str {B H : Hp} {v : V} {s : List Nat} (h : Vw G B H v (.str s)) : v = .str ⟨s.toArray⟩ := by cases h with | fr f => cases f; rfl
theorem vw_lst {B H : Hp} {v : V} {ds : List D} (e : Ex B H) (h : Vw G B H v (.lst ds)) : ∃ p vs, v = .ref p ∧ H p = some (.lst vs) ∧ FrL G B vs ds := by
  cases h with
  | fr f => cases f with | lst hp l => exact ⟨_, _, rfl, e _ _ hp, l⟩
  | lst hp l => exact ⟨_, _, rfl, hp, l⟩
theorem vw_tup {B H : Hp} {v : V} {ds : List D} (e : Ex B H) (h : Vw G B H v (.tup ds)) : ∃ p vs, v = .ref p ∧ B p = some (.tup vs) ∧ H p = some (.tup vs) ∧ FrL G B vs ds := by
  cases h with
  | fr f => cases f with | tup hp l => exact ⟨_, _, rfl, hp, e _ _ hp, l⟩
theorem vw_wtup {B H : Hp} {v : V} {ds : List D} (e : Ex B H) (h : Vw G B H v (.wtup ds)) : ∃ p vs, v = .ref p ∧ TupW G.K H p vs ∧ FrL G B vs ds := by
  cases h with
  | fr f => cases f with | wtup hw l => exact ⟨_, _, rfl, hw.mono e, l⟩
/-- a tuple of either kind, read -/
def tupOf : D → Option (List D)
  | .tup xs => some xs
  | .wtup xs => some xs
  | _ => none
theorem vw_tupOf {B H : Hp} {v : V} {d : D} {ds : List D} (e : Ex B H) (h : Vw G B H v d) (ht : tupOf d = some ds) : ∃ p vs, v = .ref p ∧ SqT G.K H p vs ∧ FrL G B vs ds := by
  cases d with
  | tup xs =>
    cases ht
    obtain ⟨p, vs, rfl, _, hp, l⟩ := vw_tup e h
    exact ⟨p, vs, rfl, SqT.of hp, l⟩
  | wtup xs =>
    cases ht
    obtain ⟨p, vs, rfl, hp, l⟩ := vw_wtup e h
    exact ⟨p, vs, rfl, hp.seq, l⟩
  | _ => cases ht
/-- a list or a tuple, read -/
def seqOf : D → Option (List D)
  | .lst xs => some xs
  | .tup xs => some xs
  | .wtup xs => some xs
  | _ => none
theorem vw_seqOf {B H : Hp} {v : V} {d : D} {ds : List D} (e : Ex B H) (h : Vw G B H v d) (ht : seqOf d = some ds) : ∃ p vs, v = .ref p ∧ (SqL G.K H p vs ∨ SqT G.K H p vs) ∧ FrL G B vs ds := by
  cases d with
  | lst xs =>
    cases ht
    obtain ⟨p, vs, rfl, hp, l⟩ := vw_lst e h
    exact ⟨p, vs, rfl, .inl (SqL.of hp), l⟩
  | tup xs =>
    obtain ⟨p, vs, rfl, hp, l⟩ := vw_tupOf e h (ds := ds) (by simpa [seqOf, tupOf] using ht)
    exact ⟨p, vs, rfl, .inr hp, l⟩
  | wtup xs =>
    obtain ⟨p, vs, rfl, hp, l⟩ := vw_tupOf e h (ds := ds) (by simpa [seqOf, tupOf] using ht)
    exact ⟨p, vs, rfl, .inr hp, l⟩
  | _ => cases ht
theorem vwl1 {B H : Hp} {vs : List V} {d : D} (h : VwL G B H vs [d]) : ∃ v, vs = [v] ∧ Vw G B H v d := by
  cases h with | cons h t => cases t; exact ⟨_, rfl, h⟩
theorem vwl2 {B H : Hp} {vs : List V} {d e : D} (h : VwL G B H vs [d, e]) : ∃ v w, vs = [v, w] ∧ Vw G B H v d ∧ Vw G B H w e := by
  cases h with | cons h t => cases t with | cons h2 t => cases t; exact ⟨_, _, rfl, h, h2⟩
/-! ### what comes out -/
abbrev Out (G : Cfg) (B H : Hp) (q : R) (Q : VK) : Prop := ∀ v s B' H', Grow B H B' H' → NewV G B' H' v q s → (∀ p, some p ∈ s → H p = none) → Q v H'
theorem Out.int {B H : Hp} {i : Int} {Q : VK} (e : Ex B H) (k : Out G B H (.d (.int i)) Q) : Q (.int i) H := k _ [] B H (Grow.refl e) ⟨rfl, .int i⟩ (by simp)
theorem Out.bl {B H : Hp} {b : Bool} {Q : VK} (e : Ex B H) (k : Out G B H (.d (.bl b)) Q) : Q (.bl b) H := k _ [] B H (Grow.refl e) ⟨rfl, .bl b⟩ (by simp)
theorem Out.str {B H : Hp} {s : List Nat} {Q : VK} (e : Ex B H) (k : Out G B H (.d (.str s)) Q) : Q (.str ⟨s.toArray⟩) H := k _ [] B H (Grow.refl e) ⟨rfl, .str s⟩ (by simp)
theorem Out.fr {B H : Hp} {v : V} {d : D} {Q : VK} (e : Ex B H) (f : Fr G B v d) (k : Out G B H (.d d) Q) : Q v H := k _ [] B H (Grow.refl e) ⟨rfl, f⟩ (by simp)
theorem Out.lst {B H : Hp} {vs : List V} {ds : List D} {Q : VK} {p : Addr} (e : Ex B H) (l : FrL G B vs ds) (hp : H p = none) (k : Out G B H (.lst ds) Q) : Q (.ref p) (upd H p (.lst vs)) := by
  have hb := e.back hp
  refine k (.ref p) [some p] B _ ⟨Ex.refl _, Ex.new hp, fun a u q => by rw [upd_ne (ne_of_none q hb)]; exact e a u q, fun _ _ _ h => h⟩ ⟨some p, rfl, rfl, hb, vs, upd_same, l⟩ (by simpa using hp)
theorem Out.tup {B H : Hp} {vs : List V} {ds : List D} {Q : VK} {p : Addr} (e : Ex B H) (l : FrL G B vs ds) (hp : H p = none) (k : Out G B H (.d (.tup ds)) Q) : Q (.ref p) (upd H p (.tup vs)) := by
  have hb := e.back hp
  have e1 : Ex B (upd B p (.tup vs)) := Ex.new hb
  refine k (.ref p) [] (upd B p (.tup vs)) _ ⟨e1, Ex.new hp, fun a u q => ?_, fun a u ha hn => ?_⟩ ⟨rfl, .tup upd_same (l.mono e1)⟩ (by simp)
  · by_cases z : a = p
    · subst z; rw [upd_same] at q ⊢; exact q
    · rw [upd_ne z] at q ⊢; exact e a u q
  · rw [upd_ne (ne_of_none ha hp)]; exact hn
theorem str_len (s : List Nat) : (⟨s.toArray⟩ : Str).length = s.length := by simp [Str.length]
theorem str_list (s : List Nat) : (⟨s.toArray⟩ : Str).cps.toList = s := by simp
abbrev r2L (r : R2) : List V → Hp → VK → Prop := fun vs H Q => ∃ x y, vs = [x, y] ∧ r x y H Q
/-! ### + -/
def catT (x y : D) (a b : List D) : Option R := if a.length + b.length < 100000 then (if a = [] then some (.d y) else if b = [] then some (.d x) else some (.d (.tup (a ++ b)))) else none
def gAdd : List D → Option R
  | [.int i, .int j] => some (.d (.int (i + j)))
  | [.str a, .str b] => if a.length + b.length < 100000 then some (.d (.str (a ++ b))) else none
  | [.lst a, .lst b] => if a.length + b.length < 100000 then some (.lst (a ++ b)) else none
  | [.tup a, .tup b] => catT (.tup a) (.tup b) a b
  | [.wtup a, .tup b] => catT (.wtup a) (.tup b) a b
  | [.tup a, .wtup b] => catT (.tup a) (.wtup b) a b
  | [.wtup a, .wtup b] => catT (.wtup a) (.wtup b) a b
  | _ => none
theorem vw_tupFr {B H : Hp} {v : V} {d : D} {ds : List D} (h : Vw G B H v d) (ht : tupOf d = some ds) : Fr G B v d := by
  cases h with
  | fr f => exact f
  | lst _ _ => cases ht
  | dK _ _ => cases ht
  | dT _ _ => cases ht
theorem catT_ok {B H : Hp} {v w : V} {x y : D} {a b : List D} {q : R} (e : Ex B H) (h1 : Vw G B H v x) (h2 : Vw G B H w y) (hx : tupOf x = some a) (hy : tupOf y = some b) (hg : catT x y a b = some q) {Q : VK} (k : Out G B H q Q) : rCatA G.K v w H Q := by
  obtain ⟨p, vs, rfl, hp, l⟩ := vw_tupOf e h1 hx
  obtain ⟨p', vs', rfl, hp', l'⟩ := vw_tupOf e h2 hy
  have f1 := vw_tupFr h1 hx
  have f2 := vw_tupFr h2 hy
  unfold catT at hg
  split at hg
  · rename_i hl
    have e1 : vs = [] ↔ a = [] := by rw [← List.length_eq_zero_iff, ← List.length_eq_zero_iff, l.length]
    have e2 : vs' = [] ↔ b = [] := by rw [← List.length_eq_zero_iff, ← List.length_eq_zero_iff, l'.length]
    refine ⟨p, p', vs, vs', rfl, rfl, hp, hp', lim_le (by rw [l.length, l'.length]; exact hl), fun z => ?_, fun z1 z2 => ?_, fun z1 z2 c hc => ?_⟩
    · rw [if_pos (e1.mp z)] at hg; cases hg; exact Out.fr e f2 k
    · rw [if_neg (fun z => z1 (e1.mpr z)), if_pos (e2.mp z2)] at hg; cases hg; exact Out.fr e f1 k
    · rw [if_neg (fun z => z1 (e1.mpr z)), if_neg (fun z => z2 (e2.mpr z))] at hg; cases hg; exact Out.tup e (l.append l') hc k
  · cases hg
def rAddA (K : PySem.W.Frag) : R2 := fun x y H Q => rI0 (fun i j => .int (i + j)) x y H Q ∨ (∃ i j, x = .str i ∧ y = .str j ∧ i.length + j.length ≤ sizeLine ∧ Q (.str (i ++ j)) H) ∨ rCat x y H Q ∨ rCatA K x y H Q
section
variable {X : Cx}
theorem op_addA : OpR X (binaryOp .Add) (rAddA X.K) := OpR.or op_add (OpR.or op_add_str (OpR.or op_cat op_catA))
end
theorem rd_add : RdV G (r2L (rAddA G.K)) gAdd := by
  intro B H vs ds q e hv hg Q k
  unfold gAdd at hg
  split at hg
  · obtain ⟨v, w, rfl, h1, h2⟩ := vwl2 hv
    cases hg
    exact ⟨_, _, rfl, .inl ⟨_, _, vw_int h1, vw_int h2, Out.int e k⟩⟩
  · obtain ⟨v, w, rfl, h1, h2⟩ := vwl2 hv
    split at hg
    · rename_i a b hl
      cases hg
      refine ⟨_, _, rfl, .inr (.inl ⟨_, _, vw_str h1, vw_str h2, lim_le (by rw [str_len, str_len]; exact hl), ?_⟩)⟩
      have : (⟨a.toArray⟩ : Str) ++ ⟨b.toArray⟩ = ⟨(a ++ b).toArray⟩ := by
        show (⟨a.toArray ++ b.toArray⟩ : Str) = _
        simp
      rw [this]
      exact Out.str e k
    · cases hg
  · obtain ⟨v, w, rfl, h1, h2⟩ := vwl2 hv
    split at hg
    · rename_i a b hl
      cases hg
      obtain ⟨p, vs, rfl, hp, l⟩ := vw_lst e h1
      obtain ⟨p', vs', rfl, hp', l'⟩ := vw_lst e h2
      exact ⟨_, _, rfl, .inr (.inr (.inl ⟨p, p', vs, vs', rfl, rfl, hp, hp', lim_le (by rw [l.length, l'.length]; exact hl), fun c hc => Out.lst e (l.append l') hc k⟩))⟩
    · cases hg
  · obtain ⟨v, w, rfl, h1, h2⟩ := vwl2 hv; exact ⟨_, _, rfl, .inr (.inr (.inr (catT_ok e h1 h2 rfl rfl hg k)))⟩
  · obtain ⟨v, w, rfl, h1, h2⟩ := vwl2 hv; exact ⟨_, _, rfl, .inr (.inr (.inr (catT_ok e h1 h2 rfl rfl hg k)))⟩
  · obtain ⟨v, w, rfl, h1, h2⟩ := vwl2 hv; exact ⟨_, _, rfl, .inr (.inr (.inr (catT_ok e h1 h2 rfl rfl hg k)))⟩
  · obtain ⟨v, w, rfl, h1, h2⟩ := vwl2 hv; exact ⟨_, _, rfl, .inr (.inr (.inr (catT_ok e h1 h2 rfl rfl hg k)))⟩
  · cases hg
/-! ### ints -/
def gI2 (c : Int → Int → Bool) (f : Int → Int → D) : List D → Option R
  | [.int i, .int j] => if c i j = true then some (.d (f i j)) else none
  | _ => none
theorem rd_I {C : Int → Int → Prop} {c : Int → Int → Bool} {f : Int → Int → V} {g : Int → Int → D} (hc : ∀ i j, c i j = true → C i j) (hf : ∀ B i j, Fr G B (f i j) (g i j)) : RdV G (r2L (rI C f)) (gI2 c g) := by
  intro B H vs ds q e hv hg Q k
  unfold gI2 at hg
  split at hg
  · obtain ⟨v, w, rfl, h1, h2⟩ := vwl2 hv
    split at hg
    · rename_i hh
      cases hg
      exact ⟨_, _, rfl, _, _, vw_int h1, vw_int h2, hc _ _ hh, Out.fr e (hf _ _ _) k⟩
    · cases hg
  · cases hg
theorem rd_I0 {f : Int → Int → V} {g : Int → Int → D} (hf : ∀ B i j, Fr G B (f i j) (g i j)) : RdV G (r2L (rI0 f)) (gI2 (fun _ _ => true) g) := by
  intro B H vs ds q e hv hg Q k
  unfold gI2 at hg
  split at hg
  · obtain ⟨v, w, rfl, h1, h2⟩ := vwl2 hv
    simp only [if_true] at hg
    cases hg
    exact ⟨_, _, rfl, _, _, vw_int h1, vw_int h2, Out.fr e (hf _ _ _) k⟩
  · cases hg
def gSub : List D → Option R := gI2 (fun _ _ => true) fun i j => .int (i - j)
def gFdiv : List D → Option R := gI2 (fun _ j => decide (0 < j) && decide (j < 1073741824)) fun i j => .int (i / j)
def gMod : List D → Option R := gI2 (fun _ j => decide (0 < j)) fun i j => .int (i % j)
def gPow : List D → Option R := gI2 (fun i j => decide (0 ≤ j) && decide (j ≤ 1000000) && decide (i.natAbs < 2 ^ 64)) fun i j => .int (i ^ j.toNat)
def gLt : List D → Option R := gI2 (fun _ _ => true) fun i j => .bl (decide (i < j))
def gLe : List D → Option R := gI2 (fun _ _ => true) fun i j => .bl (decide (i ≤ j))
def gGt : List D → Option R := gI2 (fun _ _ => true) fun i j => .bl (decide (j < i))
def gGe : List D → Option R := gI2 (fun _ _ => true) fun i j => .bl (decide (j ≤ i))
theorem rd_sub : RdV G (r2L (rI0 fun i j => .int (i - j))) gSub := rd_I0 fun _ _ _ => .int _
theorem rd_fdiv : RdV G (r2L (rI CDiv fun i j => .int (i / j))) gFdiv := rd_I (fun i j h => by simpa [CDiv] using h) fun _ _ _ => .int _
theorem rd_mod : RdV G (r2L (rI (fun _ j => 0 < j) fun i j => .int (i % j))) gMod := rd_I (fun i j h => by simpa using h) fun _ _ _ => .int _
theorem rd_pow : RdV G (r2L (rI CPow fun i j => .int (i ^ j.toNat))) gPow := rd_I (fun i j h => by simp only [Bool.and_eq_true, decide_eq_true_eq] at h; exact ⟨h.1.1, h.1.2, h.2⟩) fun _ _ _ => .int _
theorem rd_lt : RdV G (r2L (rI0 fun i j => .bl (decide (i < j)))) gLt := rd_I0 fun _ _ _ => .bl _
theorem rd_le : RdV G (r2L (rI0 fun i j => .bl (decide (i ≤ j)))) gLe := rd_I0 fun _ _ _ => .bl _
theorem rd_gt : RdV G (r2L (rI0 fun i j => .bl (decide (j < i)))) gGt := rd_I0 fun _ _ _ => .bl _
theorem rd_ge : RdV G (r2L (rI0 fun i j => .bl (decide (j ≤ i)))) gGe := rd_I0 fun _ _ _ => .bl _
/-! ### * -/
def mulS (s : List Nat) (k : Int) : List Nat := (List.replicate k.toNat s).flatten
def gMul : List D → Option R
  | [.int i, .int j] => if (decide (i.natAbs < 2 ^ 64) || decide (j.natAbs < 2 ^ 64)) = true then some (.d (.int (i * j))) else none
  | [.str s, .int k] => if (decide (k.natAbs < 100000) && decide (s.length * k.toNat < 100000)) = true then some (.d (.str (mulS s k))) else none
  | [.lst xs, .int k] => if (decide (k.natAbs < 100000) && decide (xs.length * k.toNat < 100000)) = true then some (.lst (List.replicate k.toNat xs).flatten) else none
  | _ => none
def rMulS : R2 := fun x y H Q => ∃ z k, x = .str z ∧ y = .int k ∧ MulOk z k ∧ Q (.str (Txt.mul z k)) H
def rMulA : R2 := fun x y H Q => rI CMul (fun i j => .int (i * j)) x y H Q ∨ rMulS x y H Q ∨ rRep x y H Q
theorem op_mulS {X : Cx} : OpR X (binaryOp .Mult) rMulS := by
  intro pins s σ H x y v u Q I rx ry h
  obtain ⟨z, k, rfl, rfl, hk, q⟩ := h
  obtain ⟨t, rfl⟩ := rx
  obtain ⟨t', rfl⟩ := ry
  exact SB.mul hk fun t2 tk => ⟨.str _, H, I.tok _, ⟨_, rfl⟩, q⟩
theorem op_mulA {X : Cx} : OpR X (binaryOp .Mult) rMulA := OpR.or op_mul (OpR.or op_mulS op_rep)
theorem fold_app (a : Array Nat) : ∀ (n : Nat) (acc : Array Nat), (List.replicate n a).foldl (· ++ ·) acc = acc ++ (List.replicate n a.toList).flatten.toArray
  | 0, acc => by simp
  | n + 1, acc => by
    rw [List.replicate_succ, List.foldl_cons, fold_app a n, List.replicate_succ, List.flatten_cons, Array.append_assoc]
    congr 1
    apply Array.ext'
    simp
theorem mul_str_eq (s : List Nat) (k : Int) : Txt.mul ⟨s.toArray⟩ k = ⟨(mulS s k).toArray⟩ := by
  unfold Txt.mul mulS
  by_cases h1 : k < 1
  · rw [if_pos h1]
    have : k.toNat = 0 := by omega
    rw [this]; rfl
  · rw [if_neg h1]
    by_cases h2 : (k == 1 || (⟨s.toArray⟩ : Str).length == 0) = true
    · rw [if_pos h2]
      simp only [Bool.or_eq_true, beq_iff_eq, str_len] at h2
      rcases h2 with h2 | h2
      · subst h2; simp
      · have : s = [] := List.length_eq_zero_iff.mp h2
        subst this
        have z : ∀ n, (List.replicate n ([] : List Nat)).flatten = [] := by
          intro n; induction n with
          | zero => rfl
          | succ n ih => rw [List.replicate_succ, List.flatten_cons, ih]; rfl
        rw [z]
    · rw [if_neg h2, fold_app]
      simp
theorem mul_ok {s : List Nat} {k : Int} (h1 : k.natAbs < 100000) (h2 : s.length * k.toNat < 100000) : MulOk ⟨s.toArray⟩ k := by
  refine ⟨?_, fun h3 h4 => ?_, fun h3 h4 => ?_⟩
  · simp only [Bool.or_eq_false_iff, decide_eq_false_iff_not]
    omega
  · rw [str_len]
    have hk : (1 : Int) ≤ k := by omega
    have h5 : (s.length : Int) * k < 100000 := by
      have : ((s.length * k.toNat : Nat) : Int) < 100000 := by omega
      rw [Int.natCast_mul] at this
      have e : (k.toNat : Int) = k := by omega
      rwa [e] at this
    intro h6
    have h7 : (s.length : Int) * k > ((2 ^ 63 - 1) / k) * k := Int.mul_lt_mul_of_pos_right h6 (by omega)
    have h8 : ((2 : Int) ^ 63 - 1) / k * k + (2 ^ 63 - 1) % k = 2 ^ 63 - 1 := Int.ediv_mul_add_emod _ _
    have h9 := Int.emod_lt_of_pos ((2 : Int) ^ 63 - 1) (show 0 < k by omega)
    omega
  · rw [str_len]
    unfold PySem.Builtin.Str.tooLong
    simp only [decide_eq_false_iff_not, sizeLine_eq]
    omega
theorem rd_mul : RdV G (r2L rMulA) gMul := by
  intro B H vs ds q e hv hg Q k
  unfold gMul at hg
  split at hg
  · obtain ⟨v, w, rfl, h1, h2⟩ := vwl2 hv
    split at hg
    · rename_i i j hh
      cases hg
      refine ⟨_, _, rfl, .inl ⟨_, _, vw_int h1, vw_int h2, ?_, Out.int e k⟩⟩
      simp only [Bool.or_eq_true, decide_eq_true_eq] at hh
      unfold CMul
      rcases hh with hh | hh
      · left; omega
      · right; omega
    · cases hg
  · obtain ⟨v, w, rfl, h1, h2⟩ := vwl2 hv
    split at hg
    · rename_i s j hh
      cases hg
      simp only [Bool.and_eq_true, decide_eq_true_eq] at hh
      refine ⟨_, _, rfl, .inr (.inl ⟨_, _, vw_str h1, vw_int h2, mul_ok hh.1 hh.2, ?_⟩)⟩
      rw [mul_str_eq]
      exact Out.str e k
    · cases hg
  · obtain ⟨v, w, rfl, h1, h2⟩ := vwl2 hv
    split at hg
    · rename_i xs j hh
      cases hg
      simp only [Bool.and_eq_true, decide_eq_true_eq] at hh
      obtain ⟨p, vs, rfl, hp, l⟩ := vw_lst e h1
      refine ⟨_, _, rfl, .inr (.inr ⟨p, j, vs, rfl, vw_int h2, hp, by omega, by omega, lim_le (by rw [l.length]; exact hh.2), fun c hc => Out.lst e ?_ hc k⟩)⟩
      generalize j.toNat = n
      induction n with
      | zero => exact .nil
      | succ n ih => rw [List.replicate_succ, List.replicate_succ, List.flatten_cons, List.flatten_cons]; exact l.append ih
    · cases hg
  · cases hg
end DV

set_option Elab.async false
set_option linter.all false
set_option maxRecDepth 100000
set_option maxHeartbeats 1000000
/-! DV13: ==, in, places, slices, built-ins. -/
namespace DV
open PySem L2
variable {G : Cfg}
/-! ### == -/
mutual
def D.eqv : D → D → Bool
  | .non, .non => true
  | .bl a, .bl b => a == b
  | .bl a, .int j => (if a then 1 else 0) == j
  | .int i, .bl b => i == (if b then 1 else 0)
  | .int i, .int j => i == j
  | .str x, .str y => x == y
  | .lst xs, .lst ys => D.eqvs xs ys
  | .tup xs, .tup ys => D.eqvs xs ys
  | .tup xs, .wtup ys => D.eqvs xs ys
  | .wtup xs, .tup ys => D.eqvs xs ys
  | .wtup xs, .wtup ys => D.eqvs xs ys
  | _, _ => false
def D.eqvs : List D → List D → Bool
  | [], [] => true
  | x :: xs, y :: ys => D.eqv x y && D.eqvs xs ys
  | _, _ => false
end
mutual
/-- data that may be compared: no dicts, letters are letters, not too deep -/
def D.okd (n : Nat) : D → Bool
  | .non => true
  | .bl _ => true
  | .int _ => true
  | .str s => s.all (· < 0x110000)
  | .lst xs => match n with
    | 0 => false
    | n + 1 => D.okds n xs
  | .tup xs => match n with
    | 0 => false
    | n + 1 => D.okds n xs
  | .wtup xs => match n with
    | 0 => false
    | n + 1 => D.okds n xs
  | _ => false
def D.okds (n : Nat) : List D → Bool
  | [] => true
  | x :: xs => D.okd n x && D.okds n xs
end
mutual
def D.py : D → PyData
  | .non => .none
  | .bl b => .bool b
  | .int i => .int i
  | .str s => .str ⟨s.toArray⟩
  | .lst xs => .list (D.pys xs)
  | .tup xs => .tuple (D.pys xs)
  | .wtup xs => .tuple (D.pys xs)
  | .dic _ => .dict []
  | .scr _ => .dict []
def D.pys : List D → List PyData
  | [] => []
  | x :: xs => D.py x :: D.pys xs
end
theorem str_beq (a b : List Nat) : ((⟨a.toArray⟩ : Str) == ⟨b.toArray⟩) = (a == b) := by
  by_cases h : a = b
  · subst h; simp
  · have h2 : (⟨a.toArray⟩ : Str) ≠ ⟨b.toArray⟩ := fun z => h (by injection z with z; simpa using z)
    rw [beq_eq_false_iff_ne.mpr h2, beq_eq_false_iff_ne.mpr h]
mutual
theorem eqv_py : ∀ (n : Nat) (a b : D), D.okd n a = true → D.okd n b = true → PyData.eqv a.py b.py = D.eqv a b
  | n, .non, b, _, hb => by cases b <;> simp_all [D.py, PyData.eqv, D.eqv, D.okd]
  | n, .bl x, b, _, hb => by cases b <;> simp_all [D.py, PyData.eqv, D.eqv, D.okd]
  | n, .int i, b, _, hb => by cases b <;> simp_all [D.py, PyData.eqv, D.eqv, D.okd]
  | n, .str s, b, _, hb => by
    cases b with
    | str t => simp only [D.py, PyData.eqv, D.eqv]; exact str_beq s t
    | _ => simp_all [D.py, PyData.eqv, D.eqv, D.okd]
  | 0, .lst xs, b, ha, hb => by simp [D.okd] at ha
  | n + 1, .lst xs, b, ha, hb => by
    cases b with
    | lst ys => simp only [D.py, PyData.eqv, D.eqv]; exact eqvs_py n xs ys (by simpa [D.okd] using ha) (by simpa [D.okd] using hb)
    | _ => simp_all [D.py, PyData.eqv, D.eqv, D.okd]
  | 0, .tup xs, b, ha, hb => by simp [D.okd] at ha
  | n + 1, .tup xs, b, ha, hb => by
    cases b with
    | tup ys => simp only [D.py, PyData.eqv, D.eqv]; exact eqvs_py n xs ys (by simpa [D.okd] using ha) (by simpa [D.okd] using hb)
    | wtup ys => simp only [D.py, PyData.eqv, D.eqv]; exact eqvs_py n xs ys (by simpa [D.okd] using ha) (by simpa [D.okd] using hb)
    | _ => simp_all [D.py, PyData.eqv, D.eqv, D.okd]
  | 0, .wtup xs, b, ha, hb => by simp [D.okd] at ha
  | n + 1, .wtup xs, b, ha, hb => by
    cases b with
    | tup ys => simp only [D.py, PyData.eqv, D.eqv]; exact eqvs_py n xs ys (by simpa [D.okd] using ha) (by simpa [D.okd] using hb)
    | wtup ys => simp only [D.py, PyData.eqv, D.eqv]; exact eqvs_py n xs ys (by simpa [D.okd] using ha) (by simpa [D.okd] using hb)
    | _ => simp_all [D.py, PyData.eqv, D.eqv, D.okd]
  | n, .dic k, b, ha, hb => by simp [D.okd] at ha
  | n, .scr k, b, ha, hb => by simp [D.okd] at ha
theorem eqvs_py : ∀ (n : Nat) (a b : List D), D.okds n a = true → D.okds n b = true → PyData.eqvAll (D.pys a) (D.pys b) = D.eqvs a b
  | n, [], [], _, _ => by simp [D.pys, PyData.eqvAll, D.eqvs]
  | n, [], _ :: _, _, _ => by simp [D.pys, PyData.eqvAll, D.eqvs]
  | n, _ :: _, [], _, _ => by simp [D.pys, PyData.eqvAll, D.eqvs]
  | n, x :: xs, y :: ys, ha, hb => by
    simp only [D.okds, Bool.and_eq_true] at ha hb
    simp only [D.pys, PyData.eqvAll, D.eqvs]
    rw [eqv_py n x y ha.1 hb.1, eqvs_py n xs ys ha.2 hb.2]
end
mutual
theorem lay_py : ∀ (n : Nat) (a : D), D.okd n a = true → a.py.canLay0 = true ∧ a.py.depth ≤ n
  | n, .non, _ => by simp [D.py, PyData.canLay0, PyData.depth]
  | n, .bl x, _ => by simp [D.py, PyData.canLay0, PyData.depth]
  | n, .int i, _ => by simp [D.py, PyData.canLay0, PyData.depth]
  | n, .str s, h => by
    simp only [D.okd] at h
    simp [D.py, PyData.canLay0, PyData.depth, PyData.strOk]
    simpa using h
  | 0, .lst xs, ha => by simp [D.okd] at ha
  | n + 1, .lst xs, ha => by
    obtain ⟨h1, h2⟩ := lays_py n xs (by simpa [D.okd] using ha)
    simp only [D.py, PyData.canLay0, PyData.depth]
    exact ⟨h1, by omega⟩
  | 0, .tup xs, ha => by simp [D.okd] at ha
  | n + 1, .tup xs, ha => by
    obtain ⟨h1, h2⟩ := lays_py n xs (by simpa [D.okd] using ha)
    simp only [D.py, PyData.canLay0, PyData.depth]
    exact ⟨h1, by omega⟩
  | 0, .wtup xs, ha => by simp [D.okd] at ha
  | n + 1, .wtup xs, ha => by
    obtain ⟨h1, h2⟩ := lays_py n xs (by simpa [D.okd] using ha)
    simp only [D.py, PyData.canLay0, PyData.depth]
    exact ⟨h1, by omega⟩
  | n, .dic k, ha => by simp [D.okd] at ha
  | n, .scr k, ha => by simp [D.okd] at ha
theorem lays_py : ∀ (n : Nat) (a : List D), D.okds n a = true → PyData.canLayAll0 (D.pys a) = true ∧ PyData.depthAll (D.pys a) ≤ n
  | n, [], _ => by simp [D.pys, PyData.canLayAll0, PyData.depthAll]
  | n, x :: xs, h => by
    simp only [D.okds, Bool.and_eq_true] at h
    obtain ⟨h1, h2⟩ := lay_py n x h.1
    obtain ⟨h3, h4⟩ := lays_py n xs h.2
    simp only [D.pys, PyData.canLayAll0, PyData.depthAll, h1, h3, Bool.and_self, true_and]
    omega
end
theorem shaped_py {n : Nat} {a : D} (hn : n ≤ 64) (h : D.okd n a = true) : SeqAt.shaped a.py = true := by
  obtain ⟨h1, h2⟩ := lay_py n a h
  simp [SeqAt.shaped, h1]
  omega
mutual
theorem dp_fr {B H : Hp} (e : Ex B H) : ∀ (n : Nat) {v : V} {d : D}, D.okd n d = true → Fr G B v d → Dp G.K H v d.py
  | _, _, _, _, .non => by simp only [D.py]; exact .non
  | _, _, _, _, .bl b => by simp only [D.py]; exact .bl b
  | _, _, _, _, .int i => by simp only [D.py]; exact .int i
  | _, _, _, _, .str s => by simp only [D.py]; exact .str _
  | 0, _, _, h, .lst hp l => by simp [D.okd] at h
  | n + 1, _, _, h, .lst hp l => by simp only [D.py]; exact .lst (SqL.of (e _ _ hp)) (dps_fr e n (by simpa [D.okd] using h) l)
  | 0, _, _, h, .tup hp l => by simp [D.okd] at h
  | n + 1, _, _, h, .tup hp l => by simp only [D.py]; exact .tup (SqT.of (e _ _ hp)) (dps_fr e n (by simpa [D.okd] using h) l)
  | 0, _, _, h, .wtup hw l => by simp [D.okd] at h
  | n + 1, _, _, h, .wtup hw l => by simp only [D.py]; exact .tup (hw.mono e).seq (dps_fr e n (by simpa [D.okd] using h) l)
  | _, _, _, h, .dK _ _ => by simp [D.okd] at h
  | _, _, _, h, .dT _ _ => by simp [D.okd] at h
  | _, _, _, h, .scr _ => by simp [D.okd] at h
theorem dps_fr {B H : Hp} (e : Ex B H) : ∀ (n : Nat) {vs : List V} {ds : List D}, D.okds n ds = true → FrL G B vs ds → DpAll G.K H vs (D.pys ds)
  | _, _, _, _, .nil => by simp only [D.pys]; exact .nil
  | n, _, _, h, .cons f l => by
    simp only [D.okds, Bool.and_eq_true] at h
    simp only [D.pys]
    exact .cons (dp_fr e n h.1 f) (dps_fr e n h.2 l)
end
theorem dp_vw {B H : Hp} {n : Nat} {v : V} {d : D} (e : Ex B H) (h : D.okd n d = true) (w : Vw G B H v d) : Dp G.K H v d.py := by
  cases w with
  | fr f => exact dp_fr e n h f
  | lst hp l =>
    cases n with
    | zero => simp [D.okd] at h
    | succ n => simp only [D.py]; exact .lst (SqL.of hp) (dps_fr e n (by simpa [D.okd] using h) l)
  | dK _ _ => simp [D.okd] at h
  | dT _ _ => simp [D.okd] at h
/-- scalars of one kind, or None beside one -/
def D.flat2 : D → D → Bool
  | .non, .non => true | .non, .int _ => true | .int _, .non => true | .non, .bl _ => true | .bl _, .non => true | .non, .str _ => true | .str _, .non => true
  | .int _, .int _ => true | .bl _, .bl _ => true | .str _, .str _ => true
  | .int _, .str _ => true | .str _, .int _ => true | .bl _, .str _ => true | .str _, .bl _ => true
  | _, _ => false
def gEq : List D → Option R
  | [a, b] => if (D.flat2 a b || (D.okd 20 a && D.okd 20 b)) = true then some (.d (.bl (D.eqv a b))) else none
  | _ => none
def gNe : List D → Option R
  | [a, b] => if (D.flat2 a b || (D.okd 20 a && D.okd 20 b)) = true then some (.d (.bl (!D.eqv a b))) else none
  | _ => none
theorem flat2_ok {B H : Hp} {a b : D} {v w : V} (h : D.flat2 a b = true) (h1 : Vw G B H v a) (h2 : Vw G B H w b) : scal v w = true ∧ decide (v = w) = D.eqv a b := by
  cases a <;> cases b <;> simp only [D.flat2, Bool.false_eq_true] at h <;>
    (first
      | (cases vw_non h1) | (cases vw_bl h1) | (cases vw_int h1) | (cases vw_str h1)) <;>
    (first
      | (cases vw_non h2) | (cases vw_bl h2) | (cases vw_int h2) | (cases vw_str h2)) <;>
    refine ⟨rfl, ?_⟩ <;> simp [D.eqv]
  all_goals first | rfl | (rename_i x y; by_cases hh : x = y <;> simp [hh])
def rEqA (K : PySem.W.Frag) : R2 := fun x y H Q => rEq x y H Q ∨ rEqD K x y H Q
def rNeA (K : PySem.W.Frag) : R2 := fun x y H Q => rNe x y H Q ∨ rNeD K x y H Q
theorem rd_eq : RdV G (r2L (rEqA G.K)) gEq := by
  intro B H vs ds q e hv hg Q k
  unfold gEq at hg
  split at hg
  · obtain ⟨v, w, rfl, h1, h2⟩ := vwl2 hv
    rename_i a b
    split at hg
    · rename_i hh
      cases hg
      by_cases hf : D.flat2 a b = true
      · obtain ⟨z1, z2⟩ := flat2_ok hf h1 h2
        exact ⟨_, _, rfl, .inl ⟨z1, by rw [z2]; exact Out.bl e k⟩⟩
      · have hh2 : D.okd 20 a = true ∧ D.okd 20 b = true := by simpa [hf] using hh
        exact ⟨_, _, rfl, .inr ⟨_, _, dp_vw e hh2.1 h1, dp_vw e hh2.2 h2, shaped_py (by decide) hh2.1, shaped_py (by decide) hh2.2, by rw [eqv_py 20 a b hh2.1 hh2.2]; exact Out.bl e k⟩⟩
    · cases hg
  · cases hg
theorem rd_ne : RdV G (r2L (rNeA G.K)) gNe := by
  intro B H vs ds q e hv hg Q k
  unfold gNe at hg
  split at hg
  · obtain ⟨v, w, rfl, h1, h2⟩ := vwl2 hv
    rename_i a b
    split at hg
    · rename_i hh
      cases hg
      by_cases hf : D.flat2 a b = true
      · obtain ⟨z1, z2⟩ := flat2_ok hf h1 h2
        exact ⟨_, _, rfl, .inl ⟨z1, by rw [z2]; exact Out.bl e k⟩⟩
      · have hh2 : D.okd 20 a = true ∧ D.okd 20 b = true := by simpa [hf] using hh
        exact ⟨_, _, rfl, .inr ⟨_, _, dp_vw e hh2.1 h1, dp_vw e hh2.2 h2, shaped_py (by decide) hh2.1, shaped_py (by decide) hh2.2, by rw [eqv_py 20 a b hh2.1 hh2.2]; exact Out.bl e k⟩⟩
    · cases hg
  · cases hg
section
variable {X : Cx}
theorem op_eqA (hu : X.A.units + 64 < cLine) : OpR X (compareOp .Eq) (rEqA X.K) := OpR.or op_eq (op_eqD hu)
theorem op_neA (hu : X.A.units + 64 < cLine) : OpR X (compareOp .NotEq) (rNeA X.K) := OpR.or op_ne (op_neD hu)
end
end DV

set_option Elab.async false
set_option linter.all false
set_option maxRecDepth 100000
set_option maxHeartbeats 1000000
/-! DV14: in, places, slices, built-in functions. -/
namespace DV
open PySem L2 PySem.Spec PyProof.Rows
variable {G : Cfg}
/-! ### dicts looked up -/
section
variable {κ : Type} [DecidableEq κ]
def dFind (h : D → Option κ) (kvs : List (D × D)) (k : κ) : Option D := (kvs.find? fun p => decide (h p.1 = some k)).map (·.2)
end
def dLook (kvs : Bool × List (D × D)) (k : D) : Option (Option D) := if kvs.1 = true then k.keyT.map (dFind D.keyT kvs.2) else k.key.map (dFind D.key kvs.2)
theorem frK_look {B : Hp} {k : Key} : ∀ {kvs : List (Key × V)} {ds : List (D × D)}, FrK G B kvs ds → (valV kvs k = none ∧ dFind D.key ds k = none) ∨ ∃ v d, valV kvs k = some v ∧ dFind D.key ds k = some d ∧ Fr G B v d
  | _, _, .nil => .inl ⟨rfl, rfl⟩
  | _, _, .cons (k := k0) (kd := kd) hk hf l => by
    by_cases h : k0 = k
    · subst h
      right
      exact ⟨_, _, by simp [valV], by simp [dFind, hk], hf⟩
    · have h2 : ¬ kd.key = some k := by rw [hk]; exact fun z => h (Option.some.inj z)
      have := frK_look (k := k) l
      simpa [valV, dFind, h, h2] using this
theorem frT_look {B : Hp} {k : List Key} : ∀ {kvs : List (List Key × V)} {ds : List (D × D)}, FrT G B kvs ds → (valV kvs k = none ∧ dFind D.keyT ds k = none) ∨ ∃ v d, valV kvs k = some v ∧ dFind D.keyT ds k = some d ∧ Fr G B v d
  | _, _, .nil => .inl ⟨rfl, rfl⟩
  | _, _, .cons (k := k0) (kd := kd) hk hf l => by
    by_cases h : k0 = k
    · subst h
      right
      exact ⟨_, _, by simp [valV], by simp [dFind, hk], hf⟩
    · have h2 : ¬ kd.keyT = some k := by rw [hk]; exact fun z => h (Option.some.inj z)
      have := frT_look (k := k) l
      simpa [valV, dFind, h, h2] using this
theorem fr_key {B : Hp} {v : V} {d : D} {k : Key} (h : Fr G B v d) (e : d.key = some k) : v = kV k := by
  cases h <;> simp [D.key] at e <;> subst e <;> rfl
theorem frL_keys {B : Hp} : ∀ {vs : List V} {ds : List D} {ks : List Key}, FrL G B vs ds → keysOf ds = some ks → vs = ks.map kV
  | _, _, ks, .nil, e => by cases e; rfl
  | _, _, ks, .cons (d := d) (ds := ds) h l, e => by
    unfold keysOf at e
    cases h1 : d.key with
    | none => simp [h1] at e
    | some k => cases h2 : keysOf ds with
      | none => simp [h1, h2] at e
      | some ks' =>
        simp [h1, h2] at e; subst e
        rw [fr_key h h1, frL_keys l h2]; rfl
/-- a key, as the dict wants it -/
theorem vw_key {B H : Hp} {v : V} {d : D} {k : Key} (h : Vw G B H v d) (e : d.key = some k) : v = kV k := by
  cases h with
  | fr f => exact fr_key f e
  | lst _ _ => simp [D.key] at e
  | dK _ _ => simp [D.key] at e
  | dT _ _ => simp [D.key] at e
theorem vw_keyT {B H : Hp} {v : V} {d : D} {k : List Key} (ex : Ex B H) (h : Vw G B H v d) (e : d.keyT = some k) : ∃ b, v = .ref b ∧ H b = some (.tup (k.map kV)) := by
  cases d with
  | tup xs =>
    obtain ⟨p, vs, rfl, _, hp, l⟩ := vw_tup ex h
    exact ⟨p, rfl, by rw [hp, frL_keys l e]⟩
  | _ => simp [D.keyT] at e
theorem vw_dic {B H : Hp} {v : V} {kvs : Bool × List (D × D)} (ex : Ex B H) (h : Vw G B H v (.dic kvs)) : ∃ p, v = .ref p ∧ ((kvs.1 = false ∧ ∃ ws, H p = some (.dK ws) ∧ FrK G B ws kvs.2) ∨ (kvs.1 = true ∧ ∃ ws, H p = some (.dT ws) ∧ FrT G B ws kvs.2)) := by
  cases h with
  | fr f => cases f with
    | dK hp l => exact ⟨_, rfl, .inl ⟨rfl, _, ex _ _ hp, l⟩⟩
    | dT hp l => exact ⟨_, rfl, .inr ⟨rfl, _, ex _ _ hp, l⟩⟩
  | dK hp l => exact ⟨_, rfl, .inl ⟨rfl, _, hp, l⟩⟩
  | dT hp l => exact ⟨_, rfl, .inr ⟨rfl, _, hp, l⟩⟩
theorem dlook_ok {B H : Hp} {v w : V} {kvs : Bool × List (D × D)} {k : D} {r : Option D} (ex : Ex B H) (h : Vw G B H v (.dic kvs)) (hk : Vw G B H w k) (e : dLook kvs k = some r) :
    ∃ p o, v = .ref p ∧ DGet H p w o ∧ (r = none ∧ o = none ∨ ∃ d u, r = some d ∧ o = some u ∧ Fr G B u d) := by
  obtain ⟨p, rfl, ⟨ht, ws, hp, l⟩ | ⟨ht, ws, hp, l⟩⟩ := vw_dic ex h
  · unfold dLook at e
    rw [ht] at e
    simp only [Bool.false_eq_true, if_false, Option.map_eq_some_iff] at e
    obtain ⟨kk, h1, rfl⟩ := e
    refine ⟨p, _, rfl, by rw [vw_key hk h1]; exact DGet.k hp, ?_⟩
    rcases frK_look (k := kk) l with ⟨q1, q2⟩ | ⟨u, d, q1, q2, q3⟩
    · exact .inl ⟨q2, q1⟩
    · exact .inr ⟨d, u, q2, q1, q3⟩
  · unfold dLook at e
    rw [ht] at e
    simp only [if_true, Option.map_eq_some_iff] at e
    obtain ⟨kk, h1, rfl⟩ := e
    obtain ⟨b, rfl, hb⟩ := vw_keyT ex hk h1
    refine ⟨p, _, rfl, DGet.t hp hb, ?_⟩
    rcases frT_look (k := kk) l with ⟨q1, q2⟩ | ⟨u, d, q1, q2, q3⟩
    · exact .inl ⟨q2, q1⟩
    · exact .inr ⟨d, u, q2, q1, q3⟩
/-! ### in -/
def strIn (a b : List Nat) : Bool := match a with
  | [c] => decide (c ∈ b)
  | _ => !(Builtin.Str.occurrences ⟨b.toArray⟩ ⟨a.toArray⟩ 0 b.length 1).isEmpty
def D.isFlat : D → Bool
  | .non => true | .bl _ => true | .int _ => true | .str _ => true
  | _ => false
def memD (x : D) (ys : List D) : Bool := ys.any fun y => D.eqv y x
def inD (x : D) : D → Option Bool
  | .str b => match x with
    | .str a => some (strIn a b)
    | _ => none
  | .lst ys => if (x.isFlat && ys.all D.isFlat) = true then some (memD x ys) else if (D.okd 20 x && D.okds 19 ys) = true then some (memD x ys) else none
  | .tup ys => if (x.isFlat && ys.all D.isFlat) = true then some (memD x ys) else none
  | .wtup ys => if (x.isFlat && ys.all D.isFlat) = true then some (memD x ys) else none
  | .dic kvs => (dLook kvs x).map Option.isSome
  | _ => none
def gIn : List D → Option R
  | [x, y] => (inD x y).map fun b => .d (.bl b)
  | _ => none
def gNotIn : List D → Option R
  | [x, y] => (inD x y).map fun b => .d (.bl (!b))
  | _ => none
def rDIn (neg : Bool) : R2 := fun y x H Q => ∃ a o, x = .ref a ∧ DGet H a y o ∧ Q (.bl (if neg then !o.isSome else o.isSome)) H
def rStrIn (neg : Bool) : R2 := fun x y H Q => ∃ i j, x = .str i ∧ y = .str j ∧ Q (.bl (if neg then !(!(Builtin.Str.occurrences j i 0 j.length 1).isEmpty) else !(Builtin.Str.occurrences j i 0 j.length 1).isEmpty)) H
def rSign (neg : Bool) : R2 := fun x y H Q => ∃ (c : Nat) (z : Str), x = .str ⟨#[c]⟩ ∧ y = .str z ∧ Q (.bl (if neg then !decide (c ∈ z.cps.toList) else decide (c ∈ z.cps.toList))) H
def rInDN (K : PySem.W.Frag) (neg : Bool) : R2 := fun x y H Q => ∃ d ds, Dp K H x d ∧ Dp K H y (.list ds) ∧ SeqAt.shaped d = true ∧ SeqAt.shaped (.list ds) = true ∧ Q (.bl (if neg then !ds.any fun z => PyData.eqv z d else ds.any fun z => PyData.eqv z d)) H
def rInA (K : PySem.W.Frag) (neg : Bool) : R2 := fun x y H Q => rSign neg x y H Q ∨ rStrIn neg x y H Q ∨ rIn K neg x y H Q ∨ rInDN K neg x y H Q ∨ rDIn neg x y H Q
section
variable {X : Cx}
theorem op_dIn (hu : X.A.units + 1 < cLine) : OpR X (compareOp .In) (rDIn false) := by
  intro pins s σ H x y v u Q I rx ry h
  obtain ⟨a, o, rfl, hg, q⟩ := h
  cases ry
  exact d_in hu I hg rx fun s' I' => ⟨.bl _, H, I', rfl, q⟩
theorem op_dNotIn (hu : X.A.units + 1 < cLine) : OpR X (compareOp .NotIn) (rDIn true) := by
  intro pins s σ H x y v u Q I rx ry h
  obtain ⟨a, o, rfl, hg, q⟩ := h
  cases ry
  exact d_notIn hu I hg rx fun s' I' => ⟨.bl _, H, I', rfl, q⟩
theorem op_inA (hu : X.A.units + 65 < cLine) : OpR X (compareOp .In) (rInA X.K false) := OpR.or op_in_sign (OpR.or op_in_str (OpR.or op_in_seq (OpR.or (op_inD hu) (op_dIn (by omega)))))
theorem op_notInA (hu : X.A.units + 65 < cLine) : OpR X (compareOp .NotIn) (rInA X.K true) := OpR.or op_notIn_sign (OpR.or op_notin_str (OpR.or op_notIn_seq (OpR.or (op_notInD hu) (op_dNotIn (by omega)))))
end
theorem flat_fr {B : Hp} {v : V} {d : D} (h : Fr G B v d) (hf : d.isFlat = true) : flatV v = true := by
  cases h <;> simp [D.isFlat] at hf <;> rfl
theorem flat_eq {B B' : Hp} {v w : V} {d e : D} (h : Fr G B v d) (h' : Fr G B' w e) (hf : d.isFlat = true) (hf' : e.isFlat = true) : eqV v w = D.eqv d e := by
  cases h <;> simp [D.isFlat] at hf <;> cases h' <;> simp [D.isFlat] at hf' <;> simp [eqV, D.eqv, str_beq]
theorem flat_all {B : Hp} {x : V} {d : D} (hx : Fr G B x d) (hf : d.isFlat = true) : ∀ {vs : List V} {ds : List D}, FrL G B vs ds → ds.all D.isFlat = true → vs.all flatV = true ∧ inV x vs = memD d ds
  | _, _, .nil, _ => ⟨rfl, rfl⟩
  | _, _, .cons h l, ha => by
    simp only [List.all_cons, Bool.and_eq_true] at ha
    obtain ⟨h1, h2⟩ := flat_all hx hf l ha.2
    refine ⟨by simp [flat_fr h ha.1, h1], ?_⟩
    simp only [inV, memD, List.any_cons] at h2 ⊢
    rw [h2, flat_eq h hx ha.1 hf]
theorem vw_flat {B H : Hp} {v : V} {d : D} (h : Vw G B H v d) (hf : d.isFlat = true) : Fr G B v d := by
  cases h with
  | fr f => exact f
  | lst _ _ => simp [D.isFlat] at hf
  | dK _ _ => simp [D.isFlat] at hf
  | dT _ _ => simp [D.isFlat] at hf
theorem mem_py {n : Nat} {x : D} (hx : D.okd n x = true) : ∀ {ys : List D}, D.okds n ys = true → ((D.pys ys).any fun z => PyData.eqv z x.py) = memD x ys
  | [], _ => by simp [D.pys, memD]
  | y :: ys, h => by
    simp only [D.okds, Bool.and_eq_true] at h
    simp only [D.pys, List.any_cons, memD]
    rw [eqv_py n y x h.1 hx]
    have := mem_py hx h.2
    simp only [memD] at this
    rw [this]
mutual
theorem okd_mono : ∀ (n m : Nat) (d : D), n ≤ m → D.okd n d = true → D.okd m d = true
  | n, m, .non, _, _ => by simp [D.okd]
  | n, m, .bl _, _, _ => by simp [D.okd]
  | n, m, .int _, _, _ => by simp [D.okd]
  | n, m, .str s, _, h => by simpa [D.okd] using h
  | 0, m, .lst xs, _, h => by simp [D.okd] at h
  | n + 1, 0, .lst xs, hm, h => by omega
  | n + 1, m + 1, .lst xs, hm, h => by simp only [D.okd] at h ⊢; exact okds_mono n m xs (by omega) h
  | 0, m, .tup xs, _, h => by simp [D.okd] at h
  | n + 1, 0, .tup xs, hm, h => by omega
  | n + 1, m + 1, .tup xs, hm, h => by simp only [D.okd] at h ⊢; exact okds_mono n m xs (by omega) h
  | 0, m, .wtup xs, _, h => by simp [D.okd] at h
  | n + 1, 0, .wtup xs, hm, h => by omega
  | n + 1, m + 1, .wtup xs, hm, h => by simp only [D.okd] at h ⊢; exact okds_mono n m xs (by omega) h
  | n, m, .dic _, _, h => by simp [D.okd] at h
  | n, m, .scr _, _, h => by simp [D.okd] at h
theorem okds_mono : ∀ (n m : Nat) (d : List D), n ≤ m → D.okds n d = true → D.okds m d = true
  | n, m, [], _, _ => by simp [D.okds]
  | n, m, x :: xs, hm, h => by
    simp only [D.okds, Bool.and_eq_true] at h ⊢
    exact ⟨okd_mono n m x hm h.1, okds_mono n m xs hm h.2⟩
end
theorem in_ok {B H : Hp} {x y : D} {v w : V} {b : Bool} (e : Ex B H) (h1 : Vw G B H v x) (h2 : Vw G B H w y) (hi : inD x y = some b) (neg : Bool) {Q : VK} (k : Q (.bl (if neg then !b else b)) H) : rInA G.K neg v w H Q := by
  have tp : ∀ {ys : List D}, (x.isFlat && ys.all D.isFlat) = true → seqOf y = some ys → memD x ys = b → rInA G.K neg v w H Q := by
    intro ys hh hy hb
    simp only [Bool.and_eq_true] at hh
    obtain ⟨p, vs, rfl, hp, l⟩ := vw_seqOf e h2 hy
    obtain ⟨z1, z2⟩ := flat_all (vw_flat h1 hh.1) hh.1 l hh.2
    refine .inr (.inr (.inl ⟨p, vs, rfl, hp, flat_fr (vw_flat h1 hh.1) hh.1, z1, ?_⟩))
    rw [z2, hb]; exact k
  cases y with
  | str t =>
    cases x with
    | str a =>
      have hw := vw_str h2
      have hv := vw_str h1
      simp only [inD, Option.some.injEq] at hi
      unfold strIn at hi
      split at hi
      · rename_i c
        subst hi
        exact .inl ⟨c, ⟨t.toArray⟩, hv, hw, by simpa using k⟩
      · subst hi
        refine .inr (.inl ⟨_, _, hv, hw, ?_⟩)
        rw [str_len]; exact k
    | _ => simp [inD] at hi
  | lst ys =>
    simp only [inD] at hi
    split at hi
    · rename_i hh
      exact tp hh rfl (Option.some.inj hi)
    · split at hi
      · rename_i hh
        have hi := Option.some.inj hi
        simp only [Bool.and_eq_true] at hh
        have hl : D.okd 20 (.lst ys) = true := by simpa [D.okd] using hh.2
        have d1 := dp_vw e hh.1 h1
        have d2 := dp_vw e hl h2
        simp only [D.py] at d2
        have s2 := shaped_py (by decide : 20 ≤ 64) hl
        simp only [D.py] at s2
        refine .inr (.inr (.inr (.inl ⟨_, _, d1, d2, shaped_py (by decide) hh.1, s2, ?_⟩)))
        rw [mem_py hh.1 (okds_mono 19 20 ys (by decide) hh.2), hi]
        exact k
      · cases hi
  | tup ys =>
    simp only [inD] at hi
    split at hi
    · rename_i hh; exact tp hh rfl (Option.some.inj hi)
    · cases hi
  | wtup ys =>
    simp only [inD] at hi
    split at hi
    · rename_i hh; exact tp hh rfl (Option.some.inj hi)
    · cases hi
  | dic kvs =>
    simp only [inD, Option.map_eq_some_iff] at hi
    obtain ⟨r, hr, rfl⟩ := hi
    obtain ⟨p, o, rfl, hg, q⟩ := dlook_ok e h2 h1 hr
    refine .inr (.inr (.inr (.inr ⟨p, o, rfl, hg, ?_⟩)))
    rcases q with ⟨rfl, rfl⟩ | ⟨d, u, rfl, rfl, _⟩ <;> exact k
  | _ => simp [inD] at hi
theorem rd_in : RdV G (r2L (rInA G.K false)) gIn := by
  intro B H vs ds q e hv hg Q k
  unfold gIn at hg
  split at hg
  · obtain ⟨v, w, rfl, h1, h2⟩ := vwl2 hv
    rw [Option.map_eq_some_iff] at hg
    obtain ⟨b, hb, rfl⟩ := hg
    exact ⟨_, _, rfl, in_ok e h1 h2 hb false (Out.bl e k)⟩
  · cases hg
theorem rd_notIn : RdV G (r2L (rInA G.K true)) gNotIn := by
  intro B H vs ds q e hv hg Q k
  unfold gNotIn at hg
  split at hg
  · obtain ⟨v, w, rfl, h1, h2⟩ := vwl2 hv
    rw [Option.map_eq_some_iff] at hg
    obtain ⟨b, hb, rfl⟩ := hg
    exact ⟨_, _, rfl, in_ok e h1 h2 hb true (Out.bl e k)⟩
  · cases hg
/-! ### is None -/
def D.isNon : D → Bool
  | .non => true
  | _ => false
def gIsN : List D → Option R
  | [x, .non] => some (.d (.bl x.isNon))
  | _ => none
def gNotN : List D → Option R
  | [x, .non] => some (.d (.bl (!x.isNon)))
  | _ => none
theorem vw_isN {B H : Hp} {v : V} {d : D} (h : Vw G B H v d) : decide (v = .non) = d.isNon := by
  cases h with
  | fr f => cases f <;> simp [D.isNon]
  | lst _ _ => simp [D.isNon]
  | dK _ _ => simp [D.isNon]
  | dT _ _ => simp [D.isNon]
theorem rd_isN : RdV G (r2L fun x y H Q => y = .non ∧ Q (.bl (decide (x = .non))) H) gIsN := by
  intro B H vs ds q e hv hg Q k
  unfold gIsN at hg
  split at hg
  · obtain ⟨v, w, rfl, h1, h2⟩ := vwl2 hv
    cases hg
    exact ⟨_, _, rfl, vw_non h2, by rw [vw_isN h1]; exact Out.bl e k⟩
  · cases hg
theorem rd_notN : RdV G (r2L fun x y H Q => y = .non ∧ Q (.bl (!decide (x = .non))) H) gNotN := by
  intro B H vs ds q e hv hg Q k
  unfold gNotN at hg
  split at hg
  · obtain ⟨v, w, rfl, h1, h2⟩ := vwl2 hv
    cases hg
    exact ⟨_, _, rfl, vw_non h2, by rw [vw_isN h1]; exact Out.bl e k⟩
  · cases hg
/-! ### places -/
def gIx : List D → Option R
  | [.str s, .int i] => if s.length < 100000 then (atI s i).map fun c => .d (.str [c]) else none
  | [.lst xs, .int i] => (atI xs i).map fun d => .d d
  | [.tup xs, .int i] => (atI xs i).map fun d => .d d
  | [.wtup xs, .int i] => (atI xs i).map fun d => .d d
  | [.dic kvs, k] => match dLook kvs k with
    | some (some d) => some (.d d)
    | _ => none
  | _ => none
def rIxD : R2 := fun x y H Q => ∃ a v, x = .ref a ∧ DGet H a y (some v) ∧ Q v H
def rIxA (K : PySem.W.Frag) : R2 := fun x y H Q => rIx K x y H Q ∨ rIxD x y H Q
section
variable {X : Cx}
theorem ix_dict (hu : X.A.units + 1 < cLine) : IxR X rIxD := by
  intro value slice pins s σ H x y v u Q I rx ry h hs
  obtain ⟨a, w, rfl, hg, q⟩ := h
  cases rx
  have hT := dict_typeIs I hg
  have h2 : wpAny (model X.prog X.w) X.A (getItem (.ref a) u) (EP X pins σ Q) X.xe s := d_getItem hu I hg ry fun w' s3 I3 rw' => ⟨w, H, I3, rw', q⟩
  unfold subscriptTail
  refine wpAny_bind ?_
  rw [getitemInPython_of_ne hT.not_modules]
  refine wpAny_bind (wpAny_specialOf hT PySem.F.slot_dict_getitem.lookup ?_)
  have fin : wpAny (model X.prog X.w) X.A (subscripted slice false (.ref a) u) (fun r s₃ => wpAny (model X.prog X.w) X.A (letTemporaryGo value (.ref a) r >>= fun _ => pure r) (EP X pins σ Q) X.xe s₃) X.xe s := by
    rw [hs]
    exact wpAny_operating (wpAny_mono h2 (fun r s₃ h₃ => wpAny_bind (wpAny_letTemporaryGo (wpAny_pure h₃))) fun _ _ x => x)
  first
    | exact wpAny_pure (wpAny_bind fin)
    | exact wpAny_bind (wpAny_pure (wpAny_bind fin))
    | exact wpAny_bind fin
theorem ix_A (hu : X.A.units + 1 < cLine) : IxR X (rIxA X.K) := IxR.or ix_seq (ix_dict hu)
end
theorem frL_at {B : Hp} {vs : List V} {ds : List D} {i : Int} {d : D} (l : FrL G B vs ds) (h : atI ds i = some d) : ∃ v, atI vs i = some v ∧ Fr G B v d := by
  unfold atI at h ⊢
  rw [l.length]
  rw [Option.bind_eq_some_iff] at h
  obtain ⟨j, h1, h2⟩ := h
  obtain ⟨v, h3, h4⟩ := l.get h2
  exact ⟨v, by rw [h1]; simpa using h3, h4⟩
theorem rd_ix : RdV G (r2L (rIxA G.K)) gIx := by
  intro B H vs ds q e hv hg Q k
  unfold gIx at hg
  split at hg
  · obtain ⟨v, w, rfl, h1, h2⟩ := vwl2 hv
    split at hg
    · rename_i s i hl
      rw [Option.map_eq_some_iff] at hg
      obtain ⟨c, hc, rfl⟩ := hg
      refine ⟨_, _, rfl, .inl (.inr (.inr ⟨_, i, c, vw_str h1, vw_int h2, lim_le (by rw [str_len]; exact hl), by rw [str_list]; exact hc, ?_⟩))⟩
      exact Out.str e k
    · cases hg
  · obtain ⟨v, w, rfl, h1, h2⟩ := vwl2 hv
    rename_i xs i
    rw [Option.map_eq_some_iff] at hg
    obtain ⟨d, hd, rfl⟩ := hg
    obtain ⟨p, us, rfl, hp, l⟩ := vw_lst e h1
    obtain ⟨u, hu, fu⟩ := frL_at l hd
    exact ⟨_, _, rfl, .inl (.inl ⟨p, us, i, u, rfl, vw_int h2, SqL.of hp, hu, Out.fr e fu k⟩)⟩
  · obtain ⟨v, w, rfl, h1, h2⟩ := vwl2 hv
    rename_i xs i
    rw [Option.map_eq_some_iff] at hg
    obtain ⟨d, hd, rfl⟩ := hg
    obtain ⟨p, us, rfl, hp, l⟩ := vw_tupOf e h1 rfl
    obtain ⟨u, hu, fu⟩ := frL_at l hd
    exact ⟨_, _, rfl, .inl (.inr (.inl ⟨p, us, i, u, rfl, vw_int h2, hp, hu, Out.fr e fu k⟩))⟩
  · obtain ⟨v, w, rfl, h1, h2⟩ := vwl2 hv
    rename_i xs i
    rw [Option.map_eq_some_iff] at hg
    obtain ⟨d, hd, rfl⟩ := hg
    obtain ⟨p, us, rfl, hp, l⟩ := vw_tupOf e h1 rfl
    obtain ⟨u, hu, fu⟩ := frL_at l hd
    exact ⟨_, _, rfl, .inl (.inr (.inl ⟨p, us, i, u, rfl, vw_int h2, hp, hu, Out.fr e fu k⟩))⟩
  · obtain ⟨v, w, rfl, h1, h2⟩ := vwl2 hv
    split at hg
    · rename_i d hd
      cases hg
      obtain ⟨p, o, rfl, hgt, z⟩ := dlook_ok e h1 h2 hd
      rcases z with ⟨z, _⟩ | ⟨d', u, z1, rfl, f⟩
      · cases z
      · cases z1
        exact ⟨_, _, rfl, .inr ⟨p, u, rfl, hgt, Out.fr e f k⟩⟩
    · cases hg
  · cases hg
section
variable {X : Cx} {E : WX} {a b : Expr} {pos : Pos}
theorem je_ix {ma mb : M R} (hK : X.K = G.K) (hu : X.A.units + 1 < cLine) (ha : JE G X E a ma) (hb : JE G X E b mb) (hs : PlainIx b := by exact fun _ _ => rfl) : JE G X E (.Subscript a b pos) (opM gIx [ma, mb]) :=
  pe_weak (pe_ix (ix_A hu) ha hb hs) fun _ _ _ h => tOp_of (by rw [hK]; exact rd_ix) h
end
end DV

set_option Elab.async false
set_option linter.all false
set_option maxRecDepth 100000
set_option maxHeartbeats 1000000
/-! DV15: slices, built-in functions and methods. -/
namespace DV
open PySem L2 PySem.Spec PyProof.Rows
variable {G : Cfg}
/-! ### slices -/
def cutL {α : Type} (xs : List α) (lo hi : Option Int) : List α := (xs.drop (HT.sIx xs.length 0 lo)).take (HT.sIx xs.length xs.length hi - HT.sIx xs.length 0 lo)
def slD (lo hi : Option Int) : D → Option R
  | .str s => if s.length < 100000 then some (.d (.str (cutL s lo hi))) else none
  | .lst xs => some (.lst (cutL xs lo hi))
  | .tup xs => some (.d (.tup (cutL xs lo hi)))
  | _ => none
def gSl00 : List D → Option R
  | [x] => slD none none x
  | _ => none
def gSl10 : List D → Option R
  | [x, .int i] => slD (some i) none x
  | _ => none
def gSl01 : List D → Option R
  | [x, .int j] => slD none (some j) x
  | _ => none
def gSl11 : List D → Option R
  | [x, .int i, .int j] => slD (some i) (some j) x
  | _ => none
def rSl (K : PySem.W.Frag) : V → Option Int → Option Int → Hp → VK → Prop := fun x lo hi H Q => rSlS x lo hi H Q ∨ rSlL K x lo hi H Q ∨ rSlA K x lo hi H Q
theorem sl_A {X : Cx} : SlR X (rSl X.K) := SlR.or sl_str (SlR.or sl_list sl_tupA)
theorem FrL.cut {B : Hp} {vs : List V} {ds : List D} (l : FrL G B vs ds) (lo hi : Option Int) : FrL G B (cutV vs lo hi) (cutL ds lo hi) := by
  unfold cutV cutL
  rw [l.length]
  exact (l.drop _).take _
theorem slD_ok {B H : Hp} {v : V} {x : D} {lo hi : Option Int} {q : R} (e : Ex B H) (h : Vw G B H v x) (hg : slD lo hi x = some q) {Q : VK} (k : Out G B H q Q) : rSl G.K v lo hi H Q := by
  cases x with
  | str s =>
    simp only [slD] at hg
    split at hg
    · rename_i hl
      cases hg
      refine .inl ⟨_, vw_str h, lim_le (by rw [str_len]; exact hl), ?_⟩
      have : cutS ⟨s.toArray⟩ lo hi = ⟨(cutL s lo hi).toArray⟩ := by
        unfold cutS cutL
        rw [str_len, str_list]
      rw [this]
      exact Out.str e k
    · cases hg
  | lst xs =>
    cases hg
    obtain ⟨p, us, rfl, hp, l⟩ := vw_lst e h
    exact .inr (.inl ⟨p, us, rfl, SqL.of hp, fun c hc => Out.lst e (l.cut lo hi) hc k⟩)
  | tup xs =>
    cases hg
    obtain ⟨p, us, rfl, hpB, hp, l⟩ := vw_tup e h
    refine .inr (.inr ⟨p, us, rfl, SqT.of hp, fun hw => ?_, fun _ c hc => Out.tup e (l.cut lo hi) hc k⟩)
    have : cutL xs lo hi = xs := by
      unfold cutL
      rw [← l.length, hw.1, hw.2, l.length]
      simp
    rw [this] at k
    exact Out.fr e (.tup hpB l) k
  | _ => simp [slD] at hg
section
variable {X : Cx} {E : WX} {a lo hi : Expr} {pos p2 : Pos} {ma mb mc : M R}
theorem je_sl00 (hK : X.K = G.K) (ha : JE G X E a ma) : JE G X E (.Subscript a (.Slice none none none p2) pos) (opM gSl00 [ma]) := by
  refine pe_weak (pe_slice sl_A ha po_none po_none) fun σ H Q ⟨B, env, ss, S, h⟩ => ?_
  unfold opM args args at h
  simp only [bnd_assoc, bnd_ret] at h
  refine opd_run S h fun o env1 v B1 H1 ss1 st kp S1 O1 h1 => ?_
  have key : RdV G (fun vs H Q => ∃ x, vs = [x] ∧ rSl G.K x none none H Q) gSl00 := by
    intro B H vs ds q e hv hg Q k
    unfold gSl00 at hg
    split at hg
    · obtain ⟨v, rfl, h1⟩ := vwl1 hv
      exact ⟨_, rfl, slD_ok e h1 hg k⟩
    · cases hg
  obtain ⟨x, e, q⟩ := fin_rd key S1 (.cons O1 .nil) h1
  cases e
  rw [hK]; exact q
theorem je_sl10 (hK : X.K = G.K) (ha : JE G X E a ma) (hb : JE G X E lo mb) : JE G X E (.Subscript a (.Slice (some lo) none none p2) pos) (opM gSl10 [ma, mb]) := by
  refine pe_weak (pe_slice sl_A ha (po_some hb) po_none) fun σ H Q ⟨B, env, ss, S, h⟩ => ?_
  unfold opM args args args at h
  simp only [bnd_assoc, bnd_ret] at h
  refine opd_run S h fun o env1 v B1 H1 ss1 st kp S1 O1 h1 => ?_
  refine opd_run S1 h1 fun o2 env2 v2 B2 H2 ss2 st2 kp2 S2 O2 h2 => ?_
  have key : RdV G (fun vs H Q => ∃ x i, vs = [x, .int i] ∧ rSl G.K x (some i) none H Q) gSl10 := by
    intro B H vs ds q e hv hg Q k
    unfold gSl10 at hg
    split at hg
    · obtain ⟨v, w, rfl, h1, h2⟩ := vwl2 hv
      exact ⟨_, _, by rw [vw_int h2], slD_ok e h1 hg k⟩
    · cases hg
  obtain ⟨x, i, e, q⟩ := fin_rd key S2 (.cons (O1.step st2.eb kp2) (.cons O2 .nil)) h2
  cases e
  exact ⟨i, rfl, by rw [hK]; exact q⟩
theorem je_sl01 (hK : X.K = G.K) (ha : JE G X E a ma) (hb : JE G X E hi mb) : JE G X E (.Subscript a (.Slice none (some hi) none p2) pos) (opM gSl01 [ma, mb]) := by
  refine pe_weak (pe_slice sl_A ha po_none (po_some hb)) fun σ H Q ⟨B, env, ss, S, h⟩ => ?_
  unfold opM args args args at h
  simp only [bnd_assoc, bnd_ret] at h
  refine opd_run S h fun o env1 v B1 H1 ss1 st kp S1 O1 h1 => ?_
  refine opd_run S1 h1 fun o2 env2 v2 B2 H2 ss2 st2 kp2 S2 O2 h2 => ?_
  have key : RdV G (fun vs H Q => ∃ x i, vs = [x, .int i] ∧ rSl G.K x none (some i) H Q) gSl01 := by
    intro B H vs ds q e hv hg Q k
    unfold gSl01 at hg
    split at hg
    · obtain ⟨v, w, rfl, h1, h2⟩ := vwl2 hv
      exact ⟨_, _, by rw [vw_int h2], slD_ok e h1 hg k⟩
    · cases hg
  obtain ⟨x, i, e, q⟩ := fin_rd key S2 (.cons (O1.step st2.eb kp2) (.cons O2 .nil)) h2
  cases e
  exact ⟨i, rfl, by rw [hK]; exact q⟩
def isIntO (o : Op) (env : Env) : Bool := match vw env o with
  | some (.int _) => true
  | _ => false
def sl11M (ma mb mc : M R) : M R := bnd (opd ma) fun o1 => bnd (opd mb) fun o2 => bnd (chk isIntO o2) fun _ => bnd (opd mc) fun o3 => bnd (seen [o1, o2, o3]) fun ds => lift (gSl11 ds)
theorem je_sl11 (hK : X.K = G.K) (ha : JE G X E a ma) (hb : JE G X E lo mb) (hc : JE G X E hi mc) : JE G X E (.Subscript a (.Slice (some lo) (some hi) none p2) pos) (sl11M ma mb mc) := by
  refine pe_weak (pe_slice sl_A ha (po_some hb) (po_some hc)) fun σ H Q ⟨B, env, ss, S, h⟩ => ?_
  unfold sl11M at h
  refine opd_run S h fun o env1 v B1 H1 ss1 st kp S1 O1 h1 => ?_
  refine opd_run S1 h1 fun o2 env2 v2 B2 H2 ss2 st2 kp2 S2 O2 h2 => ?_
  unfold chk at h2
  have hi2 : ∃ i, vw env2 o2 = some (.int i) ∧ v2 = .int i := by
    cases hw : vw env2 o2 with
    | none => simp only [bnd, isIntO, hw] at h2; exact h2.elim
    | some d => cases d with
      | int i => exact ⟨i, rfl, vw_int (vw_ok S2 O2 hw)⟩
      | _ => simp only [bnd, isIntO, hw] at h2; exact h2.elim
  obtain ⟨i, hw, rfl⟩ := hi2
  refine ⟨i, rfl, ?_⟩
  have h2' : Ok G E σ B2 H2 ss2 (bnd (opd mc) (fun o3 => bnd (seen [o, o2, o3]) fun ds => lift (gSl11 ds)) env2) fun r _ B' H' ss' N => ∀ v s, s.filterMap id = N → RRep G σ B' H' ss' v r s → Q v H' := by
    have q := h2
    simp only [bnd, isIntO, hw, if_true] at q
    exact q
  refine opd_run S2 h2' fun o3 env3 v3 B3 H3 ss3 st3 kp3 S3 O3 h3 => ?_
  have key : RdV G (fun vs H Q => ∃ x i j, vs = [x, .int i, .int j] ∧ rSl G.K x (some i) (some j) H Q) gSl11 := by
    intro B H vs ds q e hv hg Q k
    unfold gSl11 at hg
    split at hg
    · cases hv with
      | cons h1 t =>
        obtain ⟨v, w, rfl, h2, h3⟩ := vwl2 t
        exact ⟨_, _, _, by rw [vw_int h2, vw_int h3], slD_ok e h1 hg k⟩
    · cases hg
  obtain ⟨x, i', j, e, q⟩ := fin_rd key S3 (.cons (OpRep.step (H := H2) st3.eb kp3 (O1.step st2.eb kp2)) (.cons (O2.step st3.eb kp3) (.cons O3 .nil))) h3
  cases e
  exact ⟨j, rfl, by rw [hK]; exact q⟩
end
/-! ### built-in functions -/
def gLen : List D → Option R
  | [.str s] => if s.length < 100000 then some (.d (.int s.length)) else none
  | [.lst xs] => some (.d (.int xs.length))
  | [.tup xs] => some (.d (.int xs.length))
  | [.wtup xs] => some (.d (.int xs.length))
  | [.dic (false, kvs)] => some (.d (.int kvs.length))
  | _ => none
def rLenA (K : PySem.W.Frag) : List V → Hp → VK → Prop := fun xs H Q => (∃ x n, xs = [x] ∧ LenV K x H n ∧ Q (.int n) H) ∨ (∃ a kvs, xs = [V.ref a] ∧ H a = some (.dK kvs) ∧ Q (.int kvs.length) H)
theorem call_lenA {X : Cx} : CallR X (.builtin "len") (rLenA X.K) := CallR.or call_len call_lenD
theorem rd_len : RdV G (rLenA G.K) gLen := by
  intro B H vs ds q e hv hg Q k
  unfold gLen at hg
  split at hg
  · obtain ⟨v, rfl, h1⟩ := vwl1 hv
    split at hg
    · rename_i s hl
      cases hg
      cases vw_str h1
      exact .inl ⟨_, s.length, rfl, ⟨lim_le (by rw [str_len]; exact hl), (str_len s).symm⟩, Out.int e k⟩
    · cases hg
  · obtain ⟨v, rfl, h1⟩ := vwl1 hv
    cases hg
    obtain ⟨p, us, rfl, hp, l⟩ := vw_seqOf e h1 rfl
    exact .inl ⟨_, _, rfl, (hp.elim (fun z => .inl ⟨us, z, l.length.symm⟩) fun z => .inr ⟨us, z, l.length.symm⟩), Out.int e k⟩
  · obtain ⟨v, rfl, h1⟩ := vwl1 hv
    cases hg
    obtain ⟨p, us, rfl, hp, l⟩ := vw_seqOf e h1 rfl
    exact .inl ⟨_, _, rfl, (hp.elim (fun z => .inl ⟨us, z, l.length.symm⟩) fun z => .inr ⟨us, z, l.length.symm⟩), Out.int e k⟩
  · obtain ⟨v, rfl, h1⟩ := vwl1 hv
    cases hg
    obtain ⟨p, us, rfl, hp, l⟩ := vw_seqOf e h1 rfl
    exact .inl ⟨_, _, rfl, (hp.elim (fun z => .inl ⟨us, z, l.length.symm⟩) fun z => .inr ⟨us, z, l.length.symm⟩), Out.int e k⟩
  · obtain ⟨v, rfl, h1⟩ := vwl1 hv
    cases hg
    obtain ⟨p, rfl, ⟨_, ws, hp, l⟩ | ⟨z, _⟩⟩ := vw_dic e h1
    · exact .inr ⟨p, ws, rfl, hp, by rw [l.length]; exact Out.int e k⟩
    · cases z
  · cases hg
def gAbs : List D → Option R
  | [.int i] => some (.d (.int (if i < 0 then -i else i)))
  | _ => none
theorem rd_abs : RdV G (fun xs H Q => ∃ i, xs = [.int i] ∧ Q (.int (if i < 0 then -i else i)) H) gAbs := by
  intro B H vs ds q e hv hg Q k
  unfold gAbs at hg
  split at hg
  · obtain ⟨v, rfl, h1⟩ := vwl1 hv
    cases hg
    exact ⟨_, by rw [vw_int h1], Out.int e k⟩
  · cases hg
def gMax2 : List D → Option R
  | [.int i, .int j] => some (.d (.int (if j > i then j else i)))
  | _ => none
def gMin2 : List D → Option R
  | [.int i, .int j] => some (.d (.int (if j < i then j else i)))
  | _ => none
theorem rd_max2 : RdV G (fun xs H Q => ∃ i j, xs = [.int i, .int j] ∧ Q (.int (if j > i then j else i)) H) gMax2 := by
  intro B H vs ds q e hv hg Q k
  unfold gMax2 at hg
  split at hg
  · obtain ⟨v, w, rfl, h1, h2⟩ := vwl2 hv
    cases hg
    exact ⟨_, _, by rw [vw_int h1, vw_int h2], Out.int e k⟩
  · cases hg
theorem rd_min2 : RdV G (fun xs H Q => ∃ i j, xs = [.int i, .int j] ∧ Q (.int (if j < i then j else i)) H) gMin2 := by
  intro B H vs ds q e hv hg Q k
  unfold gMin2 at hg
  split at hg
  · obtain ⟨v, w, rfl, h1, h2⟩ := vwl2 hv
    cases hg
    exact ⟨_, _, by rw [vw_int h1, vw_int h2], Out.int e k⟩
  · cases hg
def gInt : List D → Option R
  | [.int i] => some (.d (.int i))
  | [.bl b] => some (.d (.int (if b then 1 else 0)))
  | _ => none
theorem rd_int : RdV G (fun xs H Q => (∃ i, xs = [.int i] ∧ Q (.int i) H) ∨ ∃ k, xs = [.bl k] ∧ Q (.int (if k then 1 else 0)) H) gInt := by
  intro B H vs ds q e hv hg Q k
  unfold gInt at hg
  split at hg
  · obtain ⟨v, rfl, h1⟩ := vwl1 hv
    cases hg
    exact .inl ⟨_, by rw [vw_int h1], Out.int e k⟩
  · obtain ⟨v, rfl, h1⟩ := vwl1 hv
    cases hg
    exact .inr ⟨_, by rw [vw_bl h1], Out.int e k⟩
  · cases hg
def gList : List D → Option R
  | [.lst xs] => some (.lst xs)
  | [.tup xs] => some (.lst xs)
  | [.wtup xs] => some (.lst xs)
  | [.scr ns] => some (.lst (ns.map .int))
  | _ => none
theorem frL_ints {B : Hp} : ∀ (ns : List Int), FrL G B (ns.map V.int) (ns.map D.int)
  | [] => .nil
  | n :: r => .cons (.int n) (frL_ints r)
theorem rd_list : RdV G (fun xs H Q => ∃ p ys, xs = [.ref p] ∧ (SqL G.K H p ys ∨ SqT G.K H p ys) ∧ ∀ l, H l = none → Q (.ref l) (upd H l (.lst ys))) gList := by
  intro B H vs ds q e hv hg Q k
  have go : ∀ {x : D} {xs : List D}, ds = [x] → seqOf x = some xs → q = .lst xs → ∃ p ys, vs = [.ref p] ∧ (SqL G.K H p ys ∨ SqT G.K H p ys) ∧ ∀ l, H l = none → Q (.ref l) (upd H l (.lst ys)) := by
    intro x xs h1 h2 h3
    subst h1; subst h3
    obtain ⟨v, rfl, h1⟩ := vwl1 hv
    obtain ⟨p, us, rfl, hp, l⟩ := vw_seqOf e h1 h2
    exact ⟨p, us, rfl, hp, fun c hc => Out.lst e l hc k⟩
  unfold gList at hg
  split at hg
  · cases hg; exact go rfl rfl rfl
  · cases hg; exact go rfl rfl rfl
  · cases hg; exact go rfl rfl rfl
  · obtain ⟨v, rfl, h1⟩ := vwl1 hv
    cases hg
    cases h1 with
    | fr f => cases f with
      | scr hs => exact ⟨_, _, rfl, .inl (e.l hs), fun c hc => Out.lst e (frL_ints _) hc k⟩
  · cases hg
def gTuple : List D → Option R
  | [.lst xs] => some (.d (.tup xs))
  | [.tup xs] => some (.d (.tup xs))
  | _ => none
theorem rd_tuple : RdV G (fun xs H Q => ∃ p ys, xs = [.ref p] ∧ ((SqL G.K H p ys ∧ ∀ l, H l = none → Q (.ref l) (upd H l (.tup ys))) ∨ (SqT G.K H p ys ∧ Q (.ref p) H))) gTuple := by
  intro B H vs ds q e hv hg Q k
  unfold gTuple at hg
  split at hg
  · obtain ⟨v, rfl, h1⟩ := vwl1 hv
    cases hg
    obtain ⟨p, us, rfl, hp, l⟩ := vw_lst e h1
    exact ⟨p, us, rfl, .inl ⟨SqL.of hp, fun c hc => Out.tup e l hc k⟩⟩
  · obtain ⟨v, rfl, h1⟩ := vwl1 hv
    cases hg
    obtain ⟨p, us, rfl, hpB, hp, l⟩ := vw_tup e h1
    exact ⟨p, us, rfl, .inr ⟨SqT.of hp, Out.fr e (.tup hpB l) k⟩⟩
  · cases hg
def blsOf : List D → Option (List Bool)
  | [] => some []
  | .bl b :: r => (blsOf r).map fun bs => b :: bs
  | _ :: _ => none
theorem frL_bls {B : Hp} : ∀ {vs : List V} {ds : List D} {bs : List Bool}, FrL G B vs ds → blsOf ds = some bs → vs = bs.map V.bl
  | _, _, bs, .nil, e => by cases e; rfl
  | _, _, bs, .cons (d := d) h l, e => by
    cases h with
    | bl b =>
      simp only [blsOf, Option.map_eq_some_iff] at e
      obtain ⟨bs', e1, rfl⟩ := e
      rw [frL_bls l e1]; rfl
    | _ => simp [blsOf] at e
def gAll : List D → Option R
  | [.lst xs] => (blsOf xs).map fun bs => .d (.bl (bs.all id))
  | _ => none
def gAny : List D → Option R
  | [.lst xs] => (blsOf xs).map fun bs => .d (.bl (bs.any id))
  | _ => none
theorem rd_all : RdV G (rAll G.K) gAll := by
  intro B H vs ds q e hv hg Q k
  unfold gAll at hg
  split at hg
  · obtain ⟨v, rfl, h1⟩ := vwl1 hv
    rw [Option.map_eq_some_iff] at hg
    obtain ⟨bs, hb, rfl⟩ := hg
    obtain ⟨p, us, rfl, hp, l⟩ := vw_lst e h1
    exact ⟨p, bs, rfl, by rw [← frL_bls l hb]; exact SqL.of hp, Out.bl e k⟩
  · cases hg
theorem rd_any : RdV G (rAny G.K) gAny := by
  intro B H vs ds q e hv hg Q k
  unfold gAny at hg
  split at hg
  · obtain ⟨v, rfl, h1⟩ := vwl1 hv
    rw [Option.map_eq_some_iff] at hg
    obtain ⟨bs, hb, rfl⟩ := hg
    obtain ⟨p, us, rfl, hp, l⟩ := vw_lst e h1
    exact ⟨p, bs, rfl, by rw [← frL_bls l hb]; exact SqL.of hp, Out.bl e k⟩
  · cases hg
/-! ### isinstance with a built-in class -/
def D.tyN : D → Option String
  | .non => some "NoneType"
  | .bl _ => some "bool"
  | .int _ => some "int"
  | .str _ => some "str"
  | .lst _ => some "list"
  | .tup _ => some "tuple"
  | .wtup _ => some "tuple"
  | .dic _ => some "dict"
  | .scr _ => none
def gIsi (T : String) : List D → Option R
  | [x] => (x.tyN.bind fun t => kitB t T).map fun b => .d (.bl b)
  | _ => none
theorem vw_tyX {B H : Hp} {v : V} {d : D} {t : String} (e : Ex B H) (h : Vw G B H v d) (ht : d.tyN = some t) : TyX G.K H v (.type t) := by
  cases d with
  | non => cases ht; cases vw_non h; exact .base .non
  | bl b => cases ht; cases vw_bl h; exact .base (.bl b)
  | int i => cases ht; cases vw_int h; exact .base (.int i)
  | str s => cases ht; cases vw_str h; exact .base (.str _)
  | lst xs => cases ht; obtain ⟨p, us, rfl, hp, l⟩ := vw_lst e h; exact .base (.lst hp)
  | tup xs => cases ht; obtain ⟨p, us, rfl, _, hp, l⟩ := vw_tup e h; exact .base (.tup hp)
  | wtup xs =>
    cases ht
    obtain ⟨p, us, rfl, hw, l⟩ := vw_wtup e h
    rcases hw with ⟨o, _, _, h1, h2, _⟩ | ⟨o, h1, _⟩
    · exact .kTuple h1 h2
    · exact .fTuple h1
  | dic kvs =>
    cases ht
    obtain ⟨p, rfl, ⟨_, ws, hp, l⟩ | ⟨_, ws, hp, l⟩⟩ := vw_dic e h
    · exact .base (.dK hp)
    · exact .base (.dT hp)
  | scr ns => cases ht
section
variable {X : Cx} {E : WX} {a c : Expr} {pos p : Pos} {m : M R}
theorem je_isi (T : String) (hK : X.K = G.K) (hm : X.mg "isinstance" = none) (ha : JE G X E a m) (hc : PE X c (tC (.ty T))) (hg : Gl X "isinstance" := by rfl)
    (he : starEach (a :: [c]) X.env = (false, eval a X.env) :: starEach [c] X.env := by rfl) (he2 : starEach (c :: []) X.env = (false, eval c X.env) :: starEach [] X.env := by rfl) (hpl : (backTo pos (starEach [c] X.env)).any (·.1) = false := by rfl) : JE G X E (.Call (.Name "isinstance" p) [a, c] [] pos) (opM (gIsi T) [m]) := by
  refine pe_weak (pe_callB call_isi hg hm (by decide +kernel) (pa_cons ha (pa_cons hc pa_nil he2) he) (by decide) (by decide) he hpl) fun σ H Q ⟨B, env, ss, S, h⟩ => ?_
  unfold opM args args at h
  simp only [bnd_assoc, bnd_ret] at h
  refine opd_run S h fun o env1 v B1 H1 ss1 st kp S1 O1 h1 => ?_
  have key : RdV G (fun vs H Q => ∃ x, vs = [x] ∧ rIsi G.K [x, .ty T] H Q) (gIsi T) := by
    intro B H vs ds q e hv hg Q k
    unfold gIsi at hg
    split at hg
    · obtain ⟨v, rfl, h1⟩ := vwl1 hv
      rw [Option.map_eq_some_iff] at hg
      obtain ⟨b, hb, rfl⟩ := hg
      rw [Option.bind_eq_some_iff] at hb
      obtain ⟨t, ht, hb⟩ := hb
      exact ⟨_, rfl, _, _, _, _, b, rfl, .ty T, vw_tyX e h1 ht, kit_ty hb, Out.bl e k⟩
    · cases hg
  obtain ⟨x, e, q⟩ := fin_rd key S1 (.cons O1 .nil) h1
  cases e
  rw [hK]; exact q
end
end DV

set_option Elab.async false
set_option linter.all false
set_option maxRecDepth 100000
set_option maxHeartbeats 1000000
/-! DV16: exceptions of own classes with fields. -/
namespace DV
open PySem L2 PySem.Spec PyProof.Rows
variable {G : Cfg}
/-! ### several clauses, with or without names -/
abbrev HdT := Value × Option Nat × (Addr → Value → Option Addr → TS)
def wGen (K : PySem.W.Frag) (Wout : WX) (D : Ends) : List HdT → WX
  | [] => Wout
  | (c, none, ts) :: r => fun cls d σ H => ∃ b, PySem.W.exmOne K cls c = some b ∧ (b = true → ∀ a, H a = none → ts a cls d D σ H) ∧ (b = false → wGen K Wout D r cls d σ H)
  | (c, some i, ts) :: r => fun cls d σ H => ∃ b, PySem.W.exmOne K cls c = some b ∧ (b = true → ∀ a, H a = none → ts a cls d { nx := fun σ' H' => D.nx (σ'.set i none) H', rt := D.rt, bk := fun σ' H' => D.bk (σ'.set i none) H', ct := fun σ' H' => D.ct (σ'.set i none) H' } (σ.set i (some (.ref a))) H) ∧ (b = false → wGen K Wout D r cls d σ H)
inductive HdG (X : Cx) : List ExceptHandler → List HdT → Prop
  | nil : HdG X [] []
  | cons {x : Str} {c : Value} {ts : Addr → Value → Option Addr → TS} {b₀ : Stmt} {suite : List Stmt} {np pos' : Pos} {hds : List ExceptHandler} {l : List HdT} (hc : Names X x c)
      (hsu : ∀ (a : Addr) (oe : Obj) (cls : Value) (d : Option Addr) (pn : List (Addr × Obj)), Zc cls d oe → (∃ vs, oe.data = .fields vs) → PSs (X.suite a ((a, oe) :: pn)) (b₀ :: suite) (ts a cls d)) (r : HdG X hds l) :
      HdG X (.ExceptHandler (some (.Name x np)) none (b₀ :: suite) pos' :: hds) ((c, none, ts) :: l)
  | consA {x n : Str} {i : Nat} {c : Value} {ts : Addr → Value → Option Addr → TS} {b₀ : Stmt} {suite : List Stmt} {np pos' : Pos} {hds : List ExceptHandler} {l : List HdT} (hc : Names X x c) (hi : X.N[i]? = some n) (hln : X.env.kindOf n = some .local)
      (hsu : ∀ (a : Addr) (oe : Obj) (cls : Value) (d : Option Addr) (pn : List (Addr × Obj)), Zc cls d oe → (∃ vs, oe.data = .fields vs) → PSs (X.suite a ((a, oe) :: pn)) (b₀ :: suite) (ts a cls d)) (r : HdG X hds l) :
      HdG X (.ExceptHandler (some (.Name x np)) (some n) (b₀ :: suite) pos' :: hds) ((c, some i, ts) :: l)
section
variable {X : Cx} {body : List Stmt} {h₀ : ExceptHandler} {hds : List ExceptHandler} {l : List HdT} {pos : Pos} {tb : WX → TS} {Wout : WX}
theorem ps_try_gen (hs : X.stack = X.env :: X.outer) (hf : X.env.frame = some X.env.locals) (hN : X.N.Nodup) (tk : Takes X Wout)
    (hb : ∀ (W : WX) (pn : List (Addr × Obj)) (xe : Value → Shared → Prop), Takes (X.tr pn xe) W → PassesOwn (model X.prog X.w) X.A X.env xe → PSs (X.tr pn xe) body (tb W))
    (hh : HdG X (h₀ :: hds) l) : PS X (.Try body (h₀ :: hds) [] [] pos) (fun D σ H => tb (wGen X.K Wout D l) D σ H) := by
  refine ⟨fun pins s σ H D I h => ?_⟩
  have ok := I.ok
  have hfr : X.A.frames = some (X.env :: X.outer) := by rw [ok.frames, hs]
  refine wpAny_Try_except ?_
  refine wpAny_mono ((hb (wGen X.K Wout D l) (X.pn ++ pins) (fun e s₁ => wpAny (model X.prog X.w) X.A (noteFrame e X.env) (fun _ s₂ => wpAny (model X.prog X.w) X.A (setFlight e none) (fun _ s₃ =>
    wpAny (model X.prog X.w) X.A (handleBy e X.env (h₀ :: hds)) (SP X pins D) X.xe s₃) X.xe s₂) X.xe s₁) (fun u s' xx => ?_) PassesOwn.looking).run [] s σ H D (I.toTry _) h) (fun f s1 hsp => ?_) (fun e s1 he => he)
  · -- the catch
    obtain ⟨a, B, sI, pins', σ', H', cls, d, rfl, J', nb, up, sky, na, os, ag, w⟩ := xx
    have J : Inv X pins σ' H' sI := J'.ofTry ok
    have sky' : Sky B (X.env :: X.outer) a (Zc cls d) X.env.locals s'.heap := by rw [← hs]; exact sky
    show wpAny (model X.prog X.w) X.A (noteFrame (.ref a) X.env) _ _ _
    refine Sky.land Zc.steady hfr hf sky' fun h3 fl3 up3 => ?_
    have J3 : Inv X pins σ' H' { s' with heap := h3 } := J.landed nb fl3.1 (up.trans up3) os ag
    obtain ⟨oe3, vs3, he3, hz3, hd3⟩ := fl3.there
    have notFr : ∀ {h : Heap} {o : Obj} {vs : Array Value}, h.FunFrames B (X.env :: X.outer) → h.get? a = some o → o.data = .fields vs → a ∉ frs (X.env :: X.outer) := fun {h o vs} ff e dd hm => by
      obtain ⟨_, o', e', hnf⟩ := ff.mem hm
      rw [e] at e'; cases e'
      exact hnf _ dd
    have nfr := notFr fl3.2.2.1 he3 hd3
    have nL : a ≠ X.env.locals := fun z => nfr (List.mem_filterMap.mpr ⟨X.env, List.mem_cons_self, by rw [hf, z]⟩)
    have nF : a ∉ X.fs := fun hm => by
      obtain ⟨e, he, q⟩ := List.mem_filterMap.mp hm
      exact nfr (List.mem_filterMap.mpr ⟨e, List.mem_cons_of_mem _ he, q⟩)
    have S3 := J3.suite he3 hd3 na nL nF
    have tst : ∀ {x : Str} {c : Value} {np : Pos} {Q : Value → Shared → Prop} {E : Value → Shared → Prop}, Names X x c → Q c { s' with heap := h3 } → wpAny (model X.prog X.w) (X.A.mark (some (.ref a))) (eval (.Name x np) X.env) Q E { s' with heap := h3 } := fun {x c np Q E} hc q => by
      obtain ⟨hg, hdbg, hm | ⟨hm, hv, hnn⟩⟩ := hc
      · exact ld_glob (X := X.suite a ((a, oe3) :: (X.pn ++ pins))) S3 hg hm q hdbg
      · exact ld_blt (X := X.suite a ((a, oe3) :: (X.pn ++ pins))) S3 hg hm hv q hnn hdbg
    have LT : PySem.W.Looks (model X.prog X.w) h3 (typeOf (.ref a)) cls := fun A Q E s k q => wpAny_typeOf_ref (k _ _ he3) (by rw [hz3.1]; exact q)
    have go : ∀ {hds' : List ExceptHandler} {l' : List HdT}, HdG X hds' l' → wGen X.K Wout D l' cls d σ' H' →
        wpAny (model X.prog X.w) X.A (handleBy (.ref a) X.env hds') (SP X pins D) X.xe { s' with heap := h3 } := by
      intro hds' l' hk
      induction hk with
      | nil =>
        intro w
        refine wpAny_handleBy_nil ?_
        obtain ⟨k1, k2, k3, oe, vs, T, oT, ts', he, hz, hd, h1, hr⟩ := id fl3
        unfold PySem.passOn
        refine wpAny_bind (wpAny_field he hd h1 ?_)
        rw [if_neg (show ¬ ((Value.ref T == Value.none) = true) from by simp)]
        have fin : wpAny (model X.prog X.w) X.A (setFlight (.ref a) X.env.frame) (fun _ s4 => wpAny (model X.prog X.w) X.A (throw (.ref a) : Sem Flow) (SP X pins D) X.xe s4) X.xe { s' with heap := h3 } := by
          rw [hf]
          refine HandSPX.setFlight_upZ fl3 fun h4 hh4 up4 => wpAny_throw (tk _ _ ?_)
          exact ⟨a, B, sI, pins, σ', H', cls, d, rfl, J, nb, (up.trans up3).trans up4, .inr (.inr (by rw [hs]; exact hh4)), na, os, ag, w⟩
        first
          | exact wpAny_bind (wpAny_pure (wpAny_bind fin))
          | exact wpAny_bind fin
      | @cons x c ts b₀ suite np pos' hds2 l2 hc hsu r ih =>
        intro w
        obtain ⟨b, hb1, hyes, hno⟩ := w
        refine wpAny_handleBy_cons (codeAny_handlers_test ?_) (by intro q; cases q)
        have LM := PySem.W.exm_one (M := model X.prog X.w) (J3.kIn) LT hb1
        refine tst hc (LM.here ?_)
        cases b with
        | true =>
          refine codeAny_handlers_suite ?_
          refine HandSPX.lands_againZ fl3 fun h4 fl4 up4 => ?_
          have J4 : Inv X pins σ' H' { s' with heap := h4 } := J.landed nb fl4.1 ((up.trans up3).trans up4) os ag
          obtain ⟨oe4, vs4, he4, hz4, hd4⟩ := fl4.there
          have S4 := J4.suite he4 hd4 na nL nF
          refine wpAny_mono ((hsu a oe4 cls d (X.pn ++ pins) hz4 ⟨_, hd4⟩).run [] _ _ H' _ S4 (hyes rfl a na)) (fun f s6 hsp => ?_) (fun _ _ z => False.elim z)
          cases f with
          | next =>
            obtain ⟨σ6, H6, S6, q6⟩ := hsp
            exact ⟨_, _, S6.unsuite ok, q6⟩
          | brk =>
            obtain ⟨σ6, H6, S6, q6⟩ := hsp
            exact ⟨_, _, S6.unsuite ok, q6⟩
          | cont =>
            obtain ⟨σ6, H6, S6, q6⟩ := hsp
            exact ⟨_, _, S6.unsuite ok, q6⟩
          | ret u =>
            obtain ⟨v6, σ6, H6, S6, r6, q6⟩ := hsp
            exact ⟨_, _, _, S6.unsuite ok, r6, q6⟩
        | false =>
          show wpAny _ X.A (handleBy (.ref a) X.env hds2) _ _ _
          exact ih (hno rfl)
      | @consA x n i c ts b₀ suite np pos' hds2 l2 hc hi hln hsu r ih =>
        intro w
        obtain ⟨b, hb1, hyes, hno⟩ := w
        have hloc : Loc X.env.scope n := .inl hln
        refine wpAny_handleBy_cons (codeAny_handlers_test ?_) (by intro q; cases q)
        have LM := PySem.W.exm_one (M := model X.prog X.w) (J3.kIn) LT hb1
        refine tst hc (LM.here ?_)
        cases b with
        | true =>
          refine codeAny_handlers_suite_as ?_
          refine HandSPX.lands_againZ fl3 fun h4 fl4 up4 => ?_
          have J4 : Inv X pins σ' H' { s' with heap := h4 } := J.landed nb fl4.1 ((up.trans up3).trans up4) os ag
          obtain ⟨oe4, vs4, he4, hz4, hd4⟩ := fl4.there
          have S4 := J4.suite he4 hd4 na nL nF
          refine store_ok (X := X.suite a ((a, oe4) :: (X.pn ++ pins))) (v := .ref a) S4 hN hi hloc rfl (fun s5 S5 => ?_) (.inr hln)
          refine wpAny_mono ((hsu a oe4 cls d (X.pn ++ pins) hz4 ⟨_, hd4⟩).run [] s5 _ H' _ S5 (hyes rfl a na)) (fun f s6 hsp => ?_) (fun _ _ z => False.elim z)
          have end_ : ∀ {σ6 : L2.St} {H6 : Hp} {Q : Shared → Prop}, Inv (X.suite a ((a, oe4) :: (X.pn ++ pins))) [] σ6 H6 s6 → (∀ s7, Inv X pins (σ6.set i none) H6 s7 → Q s7) →
              wpAny (model X.prog X.w) X.A (do bindName X.env n .none; unbindBehindTheSuite X.env n pos') (fun _ s7 => Q s7) X.xe s6 := fun {σ6 H6 Q} S6 hq => gone_ok (S6.unsuite ok) hN hi hln hq
          cases f with
          | next =>
            obtain ⟨σ6, H6, S6, q6⟩ := hsp
            exact end_ S6 fun s7 J7 => ⟨_, _, J7, q6⟩
          | brk =>
            obtain ⟨σ6, H6, S6, q6⟩ := hsp
            exact end_ S6 fun s7 J7 => ⟨_, _, J7, q6⟩
          | cont =>
            obtain ⟨σ6, H6, S6, q6⟩ := hsp
            exact end_ S6 fun s7 J7 => ⟨_, _, J7, q6⟩
          | ret u =>
            obtain ⟨v6, σ6, H6, S6, r6, q6⟩ := hsp
            exact end_ S6 fun s7 J7 => ⟨_, _, _, J7, r6, q6⟩
        | false =>
          show wpAny _ X.A (handleBy (.ref a) X.env hds2) _ _ _
          exact ih (hno rfl)
    exact go hh w
  · cases f with
    | next =>
      obtain ⟨σ', H', J', q⟩ := hsp
      exact wpAny_execs_nil ⟨σ', H', J'.ofTry ok, q⟩
    | brk =>
      obtain ⟨σ', H', J', q⟩ := hsp
      exact ⟨σ', H', J'.ofTry ok, q⟩
    | cont =>
      obtain ⟨σ', H', J', q⟩ := hsp
      exact ⟨σ', H', J'.ofTry ok, q⟩
    | ret u =>
      obtain ⟨v, σ', H', J', r, q⟩ := hsp
      exact ⟨v, σ', H', J'.ofTry ok, r, q⟩
end
/-! ### by mirrors: every suite returns a value told by the exception -/
/-- a clause: which classes it takes, what its suite returns -/
structure Hd where
  takes : Nat → Option Bool
  gives : Exn → Option D
def handle (x : Exn) (e : Env) : List Hd → Res Fl
  | [] => .exc x e
  | h :: r => match h.takes x.c with
    | some true => match h.gives x with
      | some d => .ok (.rt (.f (.fz d))) e
      | none => .fail
    | some false => handle x e r
    | none => .fail
def tryM (b : M Fl) (hs : List Hd) : M Fl := fun env => match b env with
  | .exc x e => handle x e hs
  | r => r
/-- a suite's reading does what its function says -/
def SuOk (G : Cfg) (i : Option Nat) (ts : Addr → Value → Option Addr → TS) (gv : Exn → Option D) : Prop :=
  ∀ (x : Exn) (y : D) (a : Addr) (d : Addr) (B H : Hp) (σ : L2.St) (D : Ends), gv x = some y → Ex B H → XRep G B H x (.ref (G.cA x.c)) (some d) → H a = none → (∀ j, i = some j → σ[j]? = some (some (.ref a))) → (∀ j, i = some j → True) →
    (∀ v B' H', Grow B H B' H' → Fr G B' v y → D.rt v H') → ts a (.ref (G.cA x.c)) (some d) D σ H
inductive HdsM (G : Cfg) (K : PySem.W.Frag) : List HdT → List Hd → Prop
  | nil : HdsM G K [] []
  | cons {c : Value} {o : Option Nat} {ts : Addr → Value → Option Addr → TS} {h : Hd} {l : List HdT} {hs : List Hd} (ht : ∀ n b, h.takes n = some b → PySem.W.exmOne K (.ref (G.cA n)) c = some b) (hsu : SuOk G o ts h.gives) (r : HdsM G K l hs) : HdsM G K ((c, o, ts) :: l) (h :: hs)
theorem handle_ok {X : Cx} {pin : Nat → Prop} {E : WX} {Z : Ends} {B H B1 H1 : Hp} {σ σ1 : L2.St} {ss ss1 : SS} {env : Env} {x : Exn} {cls : Value} {dx : Option Addr} {N : Nat} (S : SR G B1 σ1 H1 env ss1) (st : Step B H ss B1 H1 ss1) (kp : Kp pin ss ss1) (pn : Pin pin σ σ1) (xr : XRep G B1 H1 x cls dx) (hσ : σ1.length = N) :
    ∀ {l : List HdT} {hs : List Hd}, HdsM G X.K l hs → (∀ c i ts, (c, some i, ts) ∈ l → i < N) → OkS G pin E σ B H ss (handle x env hs) Z → wGen X.K E Z l cls dx σ1 H1
  | _, _, .nil, _, h => h cls dx σ1 B1 H1 ss1 st kp pn S xr
  | _, _, .cons (c := c) (o := o) (ts := ts) (h := hd) ht hsu r, hN, h => by
    obtain ⟨hc, d, vs, hd2, hH, hl, hf⟩ := id xr
    subst hc; subst hd2
    unfold handle at h
    cases htk : hd.takes x.c with
    | none => simp only [htk] at h; exact h.elim
    | some b =>
      have hex := ht _ _ htk
      have rest := fun hN' => handle_ok (X := X) (E := E) (Z := Z) S st kp pn xr hσ r hN'
      cases b with
      | false =>
        simp only [htk] at h
        cases o with
        | none => exact ⟨false, hex, (fun z => nomatch z), fun _ => rest (fun c i ts hm => hN c i ts (List.mem_cons_of_mem _ hm)) h⟩
        | some i => exact ⟨false, hex, (fun z => nomatch z), fun _ => rest (fun c i ts hm => hN c i ts (List.mem_cons_of_mem _ hm)) h⟩
      | true =>
        simp only [htk] at h
        cases hg : hd.gives x with
        | none => simp only [hg] at h; exact h.elim
        | some y =>
          simp only [hg] at h
          have fin : ∀ v B' H', Grow B1 H1 B' H' → Fr G B' v y → Z.rt v H' := fun v B' H' gr fv => by
            obtain ⟨S', st'⟩ := S.grow gr.eb gr.eh gr.ex gr.bn
            exact h σ1 B' H' ss1 (st.trans st') kp pn S' v [none] ⟨⟨none, rfl, fv⟩, by simp, by simp⟩ (by simp)
          cases o with
          | none => exact ⟨true, hex, fun _ a ha => hsu x y a d B1 H1 σ1 _ hg S.ex xr ha (fun j z => nomatch z) (fun _ _ => trivial) fin, (fun z => nomatch z)⟩
          | some i =>
            have hi : i < σ1.length := by rw [hσ]; exact hN c i ts List.mem_cons_self
            refine ⟨true, hex, fun _ a ha => hsu x y a d B1 H1 (σ1.set i (some (.ref a))) _ hg S.ex xr ha (fun j z => ?_) (fun _ _ => trivial) fin, (fun z => nomatch z)⟩
            cases z
            exact List.getElem?_set_self hi
section
variable {X : Cx} {pin : Nat → Prop} {E : WX} {body : List Stmt} {h₀ : ExceptHandler} {hds : List ExceptHandler} {l : List HdT} {pos : Pos} {hs : List Hd} {mb : M Fl}
theorem js_try (hst : X.stack = X.env :: X.outer) (hf : X.env.frame = some X.env.locals) (hN : X.N.Nodup) (tk : Takes X E)
    (hb : ∀ (W : WX) (pn : List (Addr × Obj)) (xe : Value → Shared → Prop), Takes (X.tr pn xe) W → PassesOwn (model X.prog X.w) X.A X.env xe → JSs G (X.tr pn xe) pin W body mb)
    (hh : HdG X (h₀ :: hds) l) (hm : HdsM G X.K l hs) (hle : (l.all fun h => match h.2.1 with | some i => decide (i < X.N.length) | none => true) = true := by rfl) : JS G X pin E (.Try body (h₀ :: hds) [] [] pos) (tryM mb hs) := by
  have hle : ∀ c i ts, (c, some i, ts) ∈ l → i < X.N.length := fun c i ts hm => by
    have := List.all_eq_true.mp hle _ hm
    simpa using this
  have q := ps_try_gen (pos := pos) (tb := fun W => tS G pin W mb) hst hf hN tk hb hh
  refine ⟨fun pins s σ H D I h => q.run pins s σ H D I ?_⟩
  obtain ⟨B, env, ss, S, h⟩ := h
  refine ⟨B, env, ss, S, ?_⟩
  unfold tryM at h
  have hlen : σ.length = X.N.length := I.len
  cases hr : mb env with
  | fail => rw [hr] at h; exact h
  | ok f e => rw [hr] at h; exact h
  | exc x e =>
    rw [hr] at h
    intro cls dx σ' B' H' ss' st kp pn S' xr
    exact handle_ok (X := X) (E := E) (Z := D) S' st kp pn xr (pn.len.trans hlen) hm hle h
end
end DV

set_option Elab.async false
set_option linter.all false
set_option maxRecDepth 100000
set_option maxHeartbeats 1000000
/-! DV17: raise; what an except suite reads. -/
namespace DV
open PySem L2 PySem.Spec PyProof.Rows
variable {G : Cfg}
/-! ### __init__ of an exception with one field, with two -/
def spI1 (C : Addr) (f : Str) : Sp := fun vs H Q _ => ∃ (a : Addr) (y : V), vs = [.ref a, y] ∧ H a = some (exo a C none) ∧ ∀ dx, H dx = none → dx ≠ a → Q .non (upd (upd H dx (exd dx [(f, y)])) a (exo a C (some dx)))
def spI2 (C : Addr) (f g : Str) : Sp := fun vs H Q _ => ∃ (a : Addr) (y z : V), vs = [.ref a, y, z] ∧ H a = some (exo a C none) ∧ ∀ dx, H dx = none → dx ≠ a → Q .non (upd (upd (upd H dx (exd dx [(f, y)])) a (exo a C (some dx))) dx (exd dx [(g, z), (f, y)]))
section
variable {P : Program} {w : World} {K : PySem.W.Frag} {mg : Str → Option Value} {base : Heap} {x qual : Str} {st : Stmt} {f C : Addr} {fd : FuncData} {N ps : List Str} {fl gl : Str}
theorem okI1 (F : Fun K x qual st f fd) (Sc : FnScope N ps (defScope st)) (T : OexC K C) (no : PySem.W.findIn K (.ref C) fl = some none) (hp : ps.length = 2) (hN : N.length = 2)
    (hb : ∀ (cdv : Value) (A : Around) (outer : List PySem.Env) (s : Shared) (H : Hp) (E : XK), PSs (cxOf CX0 P w K mg base N qual (defScope st) f cdv A outer s H E).nox (defBody st) (tOst K fl (tVar 0) (tVar 1))) : FnOk P w K mg base CX0 1 f fd ps (spI1 C fl) := by
  refine F.ok Sc (fun vs H Q E h => ?_) (fun cdv A outer s H vs Q E hr h => ⟨_, hb cdv A outer s H E, ?_⟩)
  · obtain ⟨a, y, rfl, _⟩ := h
    rw [hp]; rfl
  · obtain ⟨a, y, rfl, ha, k⟩ := h
    match N, hN with
    | [n1, n2], _ =>
      exact ⟨_, rfl, _, rfl, a, C, rfl, T, no, .inl ⟨ha, fun dx hd hn => k dx hd hn⟩⟩
theorem okI2 (F : Fun K x qual st f fd) (Sc : FnScope N ps (defScope st)) (T : OexC K C) (no : PySem.W.findIn K (.ref C) fl = some none) (no2 : PySem.W.findIn K (.ref C) gl = some none) (hp : ps.length = 3) (hN : N.length = 3)
    (hb : ∀ (cdv : Value) (A : Around) (outer : List PySem.Env) (s : Shared) (H : Hp) (E : XK), PSs (cxOf CX0 P w K mg base N qual (defScope st) f cdv A outer s H E).nox (defBody st) (tSeq (tOst K fl (tVar 0) (tVar 1)) (tOst K gl (tVar 0) (tVar 2)))) : FnOk P w K mg base CX0 1 f fd ps (spI2 C fl gl) := by
  refine F.ok Sc (fun vs H Q E h => ?_) (fun cdv A outer s H vs Q E hr h => ⟨_, hb cdv A outer s H E, ?_⟩)
  · obtain ⟨a, y, z, rfl, _⟩ := h
    rw [hp]; rfl
  · obtain ⟨a, y, z, rfl, ha, k⟩ := h
    match N, hN with
    | [n1, n2, n3], _ =>
      refine ⟨_, rfl, _, rfl, a, C, rfl, T, no, .inl ⟨ha, fun dx hd hn => ?_⟩⟩
      refine ⟨_, rfl, _, rfl, a, C, rfl, T, no2, .inr ⟨dx, _, upd_same, ?_, by simp, k dx hd hn⟩⟩
      rw [upd_ne hn]; exact upd_same
end
/-! ### raise C(..) -/
def raiseM (c : Nat) (ms : List (M R)) : M Fl := bnd (fargs ms) fun ds env => .exc ⟨c, ds.reverse⟩ env
section
variable {X : Cx} {pin : Nat → Prop} {E : WX} {e : Expr} {es : List Expr} {pos pos2 p : Pos} {c : Nat} {f g x : Str} {ms : List (M R)}
theorem raise_fin {σ : L2.St} {B H : Hp} {env : Env} {ss : SS} {ds : List D} {vs : List V} {Z : Ends} {fs : List Str} (S : SR G B σ H env ss) (hv : FrL G B vs ds) (hl : G.lay c = fs.reverse) (hn : ds.length = fs.length)
    (h : OkS G pin E σ B H ss (.exc ⟨c, ds.reverse⟩ env) Z) {d : Addr} (hd : H d = none) : E (.ref (G.cA c)) (some d) σ (upd H d (.xd (fs.reverse.zip vs.reverse))) := by
  have bd : B d = none := S.ex.back hd
  obtain ⟨S', st'⟩ := S.grow (B' := B) (H' := upd H d (.xd (fs.reverse.zip vs.reverse))) (Ex.refl _) (Ex.new hd) (fun a o h => by rw [upd_ne (fun z => by rw [z, bd] at h; cases h)]; exact S.ex a o h) (fun a o _ z => z)
  refine h _ _ σ B _ ss st' (Kp.refl _ _) (Pin.refl _ _) S' ⟨rfl, d, vs.reverse, rfl, by rw [hl]; exact upd_same, ?_, hv.reverse⟩
  rw [hl, List.length_reverse, List.length_reverse, hv.length, hn]
theorem js_raise1 {fI : Addr} {fd : FuncData} {ps : List Str} (c : Nat) (hc : X.calm = true) (T : OexC X.K (G.cA c)) (iC : PySem.W.findIn X.K (.ref (G.cA c)) "__init__" = some (some (.ref fI))) (tI : PySem.W.typeIn X.K (.ref fI) = some (.type "function"))
    (F1 : FnOk X.prog X.w X.K X.mg X.base CX0 1 fI fd ps (spI1 (G.cA c) f)) (hr : Room 2 X.A) (hb : Binds X.K fd ps []) (tk : Takes X E) (hm : X.mg x = some (.ref (G.cA c))) (ha : JF G X E (e :: es) ms)
    (hl : G.lay c = [f]) (hn : ms.length = 1 := by rfl) (hg : Gl X x := by rfl) (hdb : (x == ("__debug__" : Str)) = false := by decide) (he : starEach (e :: es) X.env = (false, eval e X.env) :: starEach es X.env := by rfl) (hpl : (backTo pos (starEach es X.env)).any (·.1) = false := by rfl) :
    JS G X pin E (.Raise (some (.Call (.Name x p) (e :: es) [] pos)) none pos2) (raiseM c ms) := by
  refine ps_weak (ps_raise hc tk (pmk_oex T iC tI F1 hr hb .nil (fun _ _ _ _ _ _ _ h => h.elim) hg hm ha hdb he hpl)) fun Z σ H ⟨B, env, ss, S, h⟩ => ?_
  refine ⟨B, env, ss, S, ?_⟩
  refine Ok.ofS (m := fargs ms) h fun ds env1 B1 H1 ss1 N hmm st kp S1 _ h1 vs hv => ?_
  have hlen : ds.length = 1 := (fargs_len hmm).trans hn
  have hvl : vs.length = 1 := hv.length.trans hlen
  refine ⟨by omega, fun a haa => ?_⟩
  match vs, hvl, hv with
  | [y], _, hv =>
    refine ⟨a, y, rfl, upd_same, fun dx hdx hne => ⟨rfl, dx, [(f, y)], upd_same, ?_, ?_, ?_⟩⟩
    · rw [upd_ne hne]; exact upd_same
    · rwa [upd_ne hne] at hdx
    · rw [upd_ne hne] at hdx
      have e2 : ∀ o1 o2 u, upd (del (upd (upd (upd H1 a o1) dx o2) a u) a) dx (.xd [(f, y)]) = upd H1 dx (.xd [(f, y)]) := fun o1 o2 u => by
        funext b
        by_cases h1 : b = dx
        · simp [upd, h1]
        · by_cases h2 : b = a
          · subst h2; simp [upd, del, h1, haa]
          · simp [upd, del, h1, h2]
      rw [e2]
      have := raise_fin (fs := [f]) S1 hv (by rw [hl]; rfl) hlen h1 hdx
      simpa using this
theorem js_raise2 {fI : Addr} {fd : FuncData} {ps : List Str} (c : Nat) (hc : X.calm = true) (T : OexC X.K (G.cA c)) (iC : PySem.W.findIn X.K (.ref (G.cA c)) "__init__" = some (some (.ref fI))) (tI : PySem.W.typeIn X.K (.ref fI) = some (.type "function"))
    (F1 : FnOk X.prog X.w X.K X.mg X.base CX0 1 fI fd ps (spI2 (G.cA c) f g)) (hr : Room 2 X.A) (hb : Binds X.K fd ps []) (tk : Takes X E) (hm : X.mg x = some (.ref (G.cA c))) (ha : JF G X E (e :: es) ms)
    (hl : G.lay c = [g, f]) (hn : ms.length = 2 := by rfl) (hg : Gl X x := by rfl) (hdb : (x == ("__debug__" : Str)) = false := by decide) (he : starEach (e :: es) X.env = (false, eval e X.env) :: starEach es X.env := by rfl) (hpl : (backTo pos (starEach es X.env)).any (·.1) = false := by rfl) :
    JS G X pin E (.Raise (some (.Call (.Name x p) (e :: es) [] pos)) none pos2) (raiseM c ms) := by
  refine ps_weak (ps_raise hc tk (pmk_oex T iC tI F1 hr hb .nil (fun _ _ _ _ _ _ _ h => h.elim) hg hm ha hdb he hpl)) fun Z σ H ⟨B, env, ss, S, h⟩ => ?_
  refine ⟨B, env, ss, S, ?_⟩
  refine Ok.ofS (m := fargs ms) h fun ds env1 B1 H1 ss1 N hmm st kp S1 _ h1 vs hv => ?_
  have hlen : ds.length = 2 := (fargs_len hmm).trans hn
  have hvl : vs.length = 2 := hv.length.trans hlen
  refine ⟨by omega, fun a haa => ?_⟩
  match vs, hvl, hv with
  | [y, z], _, hv =>
    refine ⟨a, y, z, rfl, upd_same, fun dx hdx hne => ⟨rfl, dx, [(g, z), (f, y)], ?_, upd_same, ?_, ?_⟩⟩
    · rw [upd_ne (Ne.symm hne)]; exact upd_same
    · rwa [upd_ne hne] at hdx
    · rw [upd_ne hne] at hdx
      have e2 : ∀ o1 o2 u o3, upd (del (upd (upd (upd (upd H1 a o1) dx o2) a u) dx o3) a) dx (.xd [(g, z), (f, y)]) = upd H1 dx (.xd [(g, z), (f, y)]) := fun o1 o2 u o3 => by
        funext b
        by_cases h1 : b = dx
        · simp [upd, h1]
        · by_cases h2 : b = a
          · subst h2; simp [upd, del, h1, haa]
          · simp [upd, del, h1, h2]
      rw [e2]
      have := raise_fin (fs := [f, g]) S1 hv (by rw [hl]; rfl) hlen h1 hdx
      simpa using this
end
end DV

set_option Elab.async false
set_option linter.all false
set_option maxRecDepth 100000
set_option maxHeartbeats 1000000
/-! DV18: what an except suite reads and returns. -/
namespace DV
open PySem L2 PySem.Spec PyProof.Rows
variable {G : Cfg}
/-- the exception x that a suite holds at a; in slot i, where it has a name -/
structure Sut (G : Cfg) (i : Option Nat) (a : Addr) (cls : Value) (d : Option Addr) (x : Exn) (B H : Hp) (σ : L2.St) : Prop where
  ex : Ex B H
  rep : XRep G B H x cls d
  at_ : ∀ j, i = some j → σ[j]? = some (some (.ref a))
theorem Sut.grow {i : Option Nat} {a : Addr} {cls : Value} {d : Option Addr} {x : Exn} {B H B' H' : Hp} {σ : L2.St} (s : Sut G i a cls d x B H σ) (g : Grow B H B' H') : Sut G i a cls d x B' H' σ := by
  obtain ⟨hc, dd, vs, hd, hH, hl, hf⟩ := s.rep
  exact ⟨g.ex, ⟨hc, dd, vs, hd, g.eh _ _ hH, hl, hf.mono g.eb⟩, s.at_⟩
theorem Grow.trans' {B H B1 H1 B2 H2 : Hp} (a : Grow B H B1 H1) (b : Grow B1 H1 B2 H2) : Grow B H B2 H2 := by
  refine ⟨a.eb.trans b.eb, a.eh.trans b.eh, b.ex, fun p o h h0 => ?_⟩
  exact b.bn p o (a.eh p o h) (a.bn p o h h0)
def tV (G : Cfg) (i : Option Nat) (a : Addr) (cls : Value) (d : Option Addr) (gv : Exn → Option D) : TE := fun σ H Q => ∃ B x y, Sut G i a cls d x B H σ ∧ gv x = some y ∧ ∀ v B' H', Grow B H B' H' → Fr G B' v y → Q v H'
def tVs (G : Cfg) (i : Option Nat) (a : Addr) (cls : Value) (d : Option Addr) (gv : Exn → Option (List D)) : TA := fun σ H Q => ∃ B x y, Sut G i a cls d x B H σ ∧ gv x = some y ∧ ∀ v B' H', Grow B H B' H' → FrL G B' v y → Q v H'
def tVT (G : Cfg) (i : Option Nat) (a : Addr) (cls : Value) (d : Option Addr) (gb : Exn → Option Bool) : TT := fun σ H Q => ∃ B x b, Sut G i a cls d x B H σ ∧ gb x = some b ∧ Q b H
def tVS (G : Cfg) (i : Option Nat) (a : Addr) (cls : Value) (d : Option Addr) (gv : Exn → Option D) : TS := fun Z σ H => ∃ B x y, Sut G i a cls d x B H σ ∧ gv x = some y ∧ ∀ v B' H', Grow B H B' H' → Fr G B' v y → Z.rt v H'
def JV (G : Cfg) (X : Cx) (i : Option Nat) (e : Expr) (gv : Exn → Option D) : Prop := ∀ a oe cls d pn, Zc cls d oe → (∃ vs, oe.data = .fields vs) → PE (X.suite a ((a, oe) :: pn)) e (tV G i a cls d gv)
def JVs (G : Cfg) (X : Cx) (i : Option Nat) (es : List Expr) (gv : Exn → Option (List D)) : Prop := ∀ a oe cls d pn, Zc cls d oe → (∃ vs, oe.data = .fields vs) → PA (X.suite a ((a, oe) :: pn)) es (tVs G i a cls d gv)
def JVT (G : Cfg) (X : Cx) (i : Option Nat) (e : Expr) (gb : Exn → Option Bool) : Prop := ∀ a oe cls d pn, Zc cls d oe → (∃ vs, oe.data = .fields vs) → PT (X.suite a ((a, oe) :: pn)) e (tVT G i a cls d gb)
def JVW (G : Cfg) (X : Cx) (i : Option Nat) (e : Expr) (gb : Exn → Option Bool) : Prop := ∀ a oe cls d pn, Zc cls d oe → (∃ vs, oe.data = .fields vs) → PW (X.suite a ((a, oe) :: pn)) e (tVT G i a cls d gb)
def JVS (G : Cfg) (X : Cx) (i : Option Nat) (sts : List Stmt) (gv : Exn → Option D) : Prop := ∀ a oe cls d pn, Zc cls d oe → (∃ vs, oe.data = .fields vs) → PSs (X.suite a ((a, oe) :: pn)) sts (tVS G i a cls d gv)
section
variable {X : Cx} {i : Option Nat} {e : Expr} {es : List Expr} {pos p : Pos}
def fldX (c j : Nat) (x : Exn) : Option D := if x.c = c then x.fs[j]? else none
theorem jv_fld {k : Nat} (c j : Nat) {n x : Str} (hK : X.K = G.K) (T : XfC X.K (G.cA c)) (hno : PySem.W.findIn X.K (.ref (G.cA c)) n = some none) (hl : (G.lay c)[j]? = some n) (nd : (G.lay c).Nodup)
    (hx : ∀ a oe pn, PE (X.suite a ((a, oe) :: pn)) (.Name x p) (tVar k)) (hb : attributeBase (.Name x p) n X.env (eval (.Name x p) X.env) = eval (.Name x p) X.env := by rfl) :
    JV G X (some k) (.Attribute (.Name x p) n pos) (fldX c j) := fun a oe cls d pn hz hf => by
  refine pe_weak (pe_xf T hno hz hf (hx a oe pn) hb) fun σ H Q ⟨B, x, y, s, hg, q⟩ => ?_
  obtain ⟨hc, dd, vs, hd, hH, hvl, hfr⟩ := s.rep
  unfold fldX at hg
  by_cases h : x.c = c
  · rw [if_pos h] at hg
    subst h
    obtain ⟨v, hv, hfv⟩ := hfr.get hg
    exact ⟨_, s.at_ k rfl, rfl, hc, dd, _, v, hd, hH, look_zip nd hl hv, q v B H (Grow.refl s.ex) hfv⟩
  · rw [if_neg h] at hg; cases hg
theorem jv_c {v : V} (hp : ∀ a oe pn, PE (X.suite a ((a, oe) :: pn)) e (tC v)) {y : D} (hf : ∀ B, Fr G B v y) : JV G X i e (fun _ => some y) := fun a oe cls d pn _ _ => by
  refine pe_weak (hp a oe pn) fun σ H Q ⟨B, x, y', s, hg, q⟩ => ?_
  cases hg
  exact q v B H (Grow.refl s.ex) (hf B)
def allX : List (Exn → Option D) → Exn → Option (List D)
  | [], _ => some []
  | g :: r, x => (g x).bind fun y => (allX r x).map fun ys => y :: ys
theorem allX_len : ∀ {gs : List (Exn → Option D)} {x : Exn} {ys : List D}, allX gs x = some ys → ys.length = gs.length
  | [], x, ys, h => by cases h; rfl
  | g :: r, x, ys, h => by
    simp only [allX, Option.bind_eq_some_iff, Option.map_eq_some_iff] at h
    obtain ⟨y, _, zs, h2, rfl⟩ := h
    simp [allX_len h2]
theorem jvs_nil : JVs G X i [] (allX []) := fun a oe cls d pn _ _ => by
  refine pa_weak pa_nil fun σ H Q ⟨B, x, y, s, hg, q⟩ => ?_
  cases hg
  exact q [] B H (Grow.refl s.ex) .nil
theorem jvs_cons {g : Exn → Option D} {gs : List (Exn → Option D)} (h : JV G X i e g) (hr : JVs G X i es (allX gs)) (hs : starEach (e :: es) X.env = (false, eval e X.env) :: starEach es X.env := by rfl) : JVs G X i (e :: es) (allX (g :: gs)) := fun a oe cls d pn hz hf => by
  refine pa_weak (pa_cons (h a oe cls d pn hz hf) (hr a oe cls d pn hz hf) hs) fun σ H Q ⟨B, x, y, s, hg, q⟩ => ?_
  unfold allX at hg
  rw [Option.bind_eq_some_iff] at hg
  obtain ⟨y1, h1, hg⟩ := hg
  rw [Option.map_eq_some_iff] at hg
  obtain ⟨ys, h2, rfl⟩ := hg
  refine ⟨B, x, y1, s, h1, fun v B1 H1 g1 f1 => ⟨B1, x, ys, s.grow g1, h2, fun vs B2 H2 g2 f2 => q _ B2 H2 (g1.trans' g2) (.cons (f1.mono g2.eb) f2)⟩⟩
def tupX (gs : List (Exn → Option D)) (x : Exn) : Option D := (allX gs x).map D.tup
theorem jv_tup {x1} {gs : List (Exn → Option D)} (h : JVs G X i es (allX gs)) (hn : gs.length ≤ 1000 := by decide) : JV G X i (.Tuple es x1 pos) (tupX gs) := fun a oe cls d pn hz hf => by
  refine pe_weak (pe_tup (h a oe cls d pn hz hf)) fun σ H Q ⟨B, x, y, s, hg, q⟩ => ?_
  unfold tupX at hg
  rw [Option.map_eq_some_iff] at hg
  obtain ⟨ys, h2, rfl⟩ := hg
  refine ⟨B, x, ys, s, h2, fun vs B1 H1 g1 f1 => ⟨?_, fun p hp => ?_⟩⟩
  · rw [f1.length, allX_len h2]; exact Nat.le_of_lt (lim_lt (by omega))
  · have bp : B1 p = none := g1.ex.back hp
    refine q _ (upd B1 p (.tup vs)) (upd H1 p (.tup vs)) (g1.trans' ⟨Ex.new bp, Ex.new hp, fun b o h => ?_, fun b o h h0 => ?_⟩) (.tup upd_same (f1.mono (Ex.new bp)))
    · by_cases hb : b = p
      · subst hb; rw [upd_same] at h ⊢; exact h
      · rw [upd_ne hb] at h ⊢; exact g1.ex _ _ h
    · rw [upd_ne (fun z => by rw [z, hp] at h; cases h)]; exact h0
def ifX {α : Type} (b : Exn → Option Bool) (f g : Exn → Option α) (x : Exn) : Option α := (b x).bind fun c => if c = true then f x else g x
theorem jv_if {c a b : Expr} {gc : Exn → Option Bool} {ga gb : Exn → Option D} (hc : JVT G X i c gc) (ha : JV G X i a ga) (hb : JV G X i b gb) : JV G X i (.IfExp c a b pos) (ifX gc ga gb) := fun ad oe cls d pn hz hf => by
  refine pe_weak (pe_ifExp (hc ad oe cls d pn hz hf) (ha ad oe cls d pn hz hf) (hb ad oe cls d pn hz hf)) fun σ H Q ⟨B, x, y, s, hg, q⟩ => ?_
  unfold ifX at hg
  rw [Option.bind_eq_some_iff] at hg
  obtain ⟨c, h1, hg⟩ := hg
  refine ⟨B, x, c, s, h1, ?_⟩
  cases c with
  | true => exact ⟨B, x, y, s, hg, q⟩
  | false => exact ⟨B, x, y, s, hg, q⟩
theorem jvw_and1 {a : Expr} {m : Exn → Option Bool} (h : JVT G X i a m) : JVW G X i (.BoolOp .And [a] pos) m := fun ad oe cls d pn hz hf => pw_and1 (h ad oe cls d pn hz hf)
theorem jvw_and {a b : Expr} {rest : List Expr} {ma mb : Exn → Option Bool} (ha : JVT G X i a ma) (hb : JVW G X i (.BoolOp .And (b :: rest) pos) mb) : JVW G X i (.BoolOp .And (a :: b :: rest) pos) (ifX ma mb (fun _ => some false)) := fun ad oe cls d pn hz hf => by
  refine pw_weak (pw_and (ha ad oe cls d pn hz hf) (hb ad oe cls d pn hz hf)) fun σ H Q ⟨B, x, y, s, hg, q⟩ => ?_
  unfold ifX at hg
  rw [Option.bind_eq_some_iff] at hg
  obtain ⟨c, h1, hg⟩ := hg
  refine ⟨B, x, c, s, h1, ?_⟩
  cases c with
  | true => exact ⟨B, x, y, s, hg, q⟩
  | false => cases hg; exact q
theorem jvt_w {m : Exn → Option Bool} (h : JVW G X i e m) : JVT G X i e m := fun ad oe cls d pn hz hf => PW.pt (h ad oe cls d pn hz hf)
/-! ### suites -/
theorem jvs_ret {gv : Exn → Option D} (h : JV G X i e gv) : JVS G X i [.Return (some e) pos] gv := fun ad oe cls d pn hz hf => pss_one (ps_ret (h ad oe cls d pn hz hf))
theorem jvs_if {c : Expr} {a rest : List Stmt} {gc : Exn → Option Bool} {ga gr : Exn → Option D} (hc : JVT G X i c gc) (ha : JVS G X i a ga) (hr : JVS G X i rest gr) : JVS G X i (.If c a [] pos :: rest) (ifX gc ga gr) := fun ad oe cls d pn hz hf => by
  refine pss_weak (pss_cons (ps_if (hc ad oe cls d pn hz hf) (ha ad oe cls d pn hz hf) pss_nil) (hr ad oe cls d pn hz hf)) fun Z σ H ⟨B, x, y, s, hg, q⟩ => ?_
  unfold ifX at hg
  rw [Option.bind_eq_some_iff] at hg
  obtain ⟨c, h1, hg⟩ := hg
  refine ⟨B, x, c, s, h1, ?_⟩
  cases c with
  | true => exact ⟨B, x, y, s, hg, q⟩
  | false => exact ⟨B, x, y, s, hg, q⟩
theorem su_ok {gv : Exn → Option D} : SuOk G i (fun a cls d => tVS G i a cls d gv) gv := fun x y a d B H σ Z hg ex xr ha hi _ fin => ⟨B, x, y, ⟨ex, xr, hi⟩, hg, fin⟩
/-! ### isinstance -/
structure IsC (K : PySem.W.Frag) (D : Addr) : Prop where
  cl : (PySem.W.clsIn K D).isSome = true
  ga : PySem.W.findIn K (.ref D) "__getattribute__" = some (some (.builtin "BaseException.__getattribute__"))
  gg : PySem.W.findIn K (.ref D) "__getattr__" = some none
  sb : PySem.W.subIn K (.ref D) (.type "BaseException") = some true
  ca : PySem.W.findIn K (.ref D) "__class__" = some (some (.builtin "object.__class__"))
  sp : PySem.W.specialIn K (.builtin "object.__class__") "__get__" = some (some (.builtin "getset_descriptor.__get__"))
  tk : PySem.W.takesIn K (.builtin "object.__class__") = some true
  mr : PySem.W.mroIn K D (.type "object") = some true
def rIsX (K : PySem.W.Frag) (a : Addr) (cls : Value) (d : Option Addr) : List V → Hp → VK → Prop := fun xs H Q => ∃ (c : V) (cv : Value) (b : Bool) (C dd : Addr) (fs : List (Str × V)), xs = [.ref a, c] ∧ (∀ u, RelV c u → u = cv) ∧ cls = .ref C ∧ IsC K C ∧ d = some dd ∧ H dd = some (.xd fs) ∧ PySem.W.kitOne K (.ref C) cv = some b ∧ Q (.bl b) H
theorem call_isX {a : Addr} {cls : Value} {oe : Obj} {d : Option Addr} {pn : List (Addr × Obj)} (hz : Zc cls d oe) (hf : ∃ vs, oe.data = .fields vs) : CallR (X.suite a ((a, oe) :: pn)) (.builtin "isinstance") (rIsX X.K a cls d) := by
  intro pins s σ H xs us Q I r h
  obtain ⟨c, cv, b, C, dd, fs, rfl, hcv, rfl, T, rfl, hH, e, q⟩ := h
  cases r with
  | cons rx rr =>
    cases rr with
    | cons rt rr =>
      cases rr
      cases rx
      have ec := hcv _ rt
      subst ec
      obtain ⟨hget, _⟩ := I.pin (a, oe) (List.mem_append.mpr (.inl List.mem_cons_self))
      obtain ⟨vs, hv⟩ := hf
      have hx : ObjOk X.prog X.w H s.heap dd (.xd fs) := I.hok dd _ hH
      obtain ⟨mA, hns, hr⟩ := hx
      obtain ⟨od, ho, hl⟩ := lookIn_ns hns
      have J : PySem.W.InstAt s.heap a oe C (some od) := ⟨hget, hz.1, by unfold PySem.W.notCls; rw [hv] <;> rfl, by rw [hz.2]; exact ho⟩
      exact PySem.W.kia_one (PySem.W.kitx_exc T.cl T.ga T.gg T.sb T.ca T.sp T.tk T.mr) I.kIn J e (fun z => nomatch z) fun tk => ⟨.bl b, H, I.kept (t' := tk) fun _ _ z => z, rfl, q⟩
/-- isinstance(e, c): what the class says of it -/
theorem jvt_isi {k : Nat} {p0 : Pos} {x : Str} {c : Expr} {cv : V} {cu : Value} (tb : Nat → Option Bool) (hK : X.K = G.K) (hm : X.mg "isinstance" = none) (ht : ∀ n b, tb n = some b → IsC X.K (G.cA n) ∧ PySem.W.kitOne X.K (.ref (G.cA n)) cu = some b) (hcv : ∀ u, RelV cv u → u = cu)
    (hx : ∀ a oe pn, PE (X.suite a ((a, oe) :: pn)) (.Name x p) (tVar k)) (hc : ∀ a oe pn, PE (X.suite a ((a, oe) :: pn)) c (tC cv)) (hg : Gl X "isinstance" := by rfl)
    (he : starEach ((.Name x p) :: [c]) X.env = (false, eval (.Name x p) X.env) :: starEach [c] X.env := by rfl) (he2 : starEach (c :: []) X.env = (false, eval c X.env) :: starEach [] X.env := by rfl) (hpl : (backTo pos (starEach [c] X.env)).any (·.1) = false := by rfl)
    (hit : ∀ whole, isTrue (.Call (.Name "isinstance" p0) [.Name x p, c] [] pos) X.env whole = (do let v ← whole; standAt (Expr.Call (.Name "isinstance" p0) [.Name x p, c] [] pos).pos; holding [v] (truthy v)) := by intro _; rfl) :
    JVT G X (some k) (.Call (.Name "isinstance" p0) [.Name x p, c] [] pos) (fun e => tb e.c) := fun a oe cls d pn hz hf => by
  refine pt_weak (pt_val (pe_callB (X := X.suite a ((a, oe) :: pn)) (call_isX hz hf) hg hm (by decide +kernel) (pa_cons (hx a oe pn) (pa_cons (hc a oe pn) pa_nil he2) he) (by decide) (by decide) he hpl) hit) fun σ H Q ⟨B, x, b, s, hb, q⟩ => ?_
  obtain ⟨hcl, dd, vs, hd, hH, hvl, hfr⟩ := s.rep
  obtain ⟨T, hk⟩ := ht _ _ hb
  exact ⟨_, s.at_ k rfl, cv, cu, b, G.cA x.c, dd, _, rfl, hcv, hcl, T, hd, hH, hk, b, rfl, q⟩
end
end DV

set_option Elab.async false
set_option linter.all false
set_option maxRecDepth 100000
set_option maxHeartbeats 1000000
/-! DV19: stores by place, enumerate. -/
namespace DV
open PySem L2 PySem.Spec PyProof.Rows
variable {G : Cfg}
/-! ### x[i] = v -/
section
variable {κ : Type} [DecidableEq κ]
def dPut (h : D → Option κ) (kvs : List (D × D)) (k : D) (d : D) : List (D × D) :=
  if (kvs.any fun p => decide (h p.1 = h k)) = true then kvs.map fun p => if h p.1 = h k then (p.1, d) else p else kvs ++ [(k, d)]
end
theorem frK_any {B : Hp} {k : Key} {kd : D} (hk : kd.key = some k) : ∀ {kvs : List (Key × V)} {ds : List (D × D)}, FrK G B kvs ds → (kvs.any fun kv => decide (kv.1 = k)) = (ds.any fun p => decide (p.1.key = kd.key))
  | _, _, .nil => rfl
  | _, _, .cons h _ l => by
    simp only [List.any_cons]
    rw [frK_any hk l, h, hk]
    simp
theorem frT_any {B : Hp} {k : List Key} {kd : D} (hk : kd.keyT = some k) : ∀ {kvs : List (List Key × V)} {ds : List (D × D)}, FrT G B kvs ds → (kvs.any fun kv => decide (kv.1 = k)) = (ds.any fun p => decide (p.1.keyT = kd.keyT))
  | _, _, .nil => rfl
  | _, _, .cons h _ l => by
    simp only [List.any_cons]
    rw [frT_any hk l, h, hk]
    simp
theorem frK_map {B : Hp} {k : Key} {kd d : D} {v : V} (hk : kd.key = some k) (hv : Fr G B v d) : ∀ {kvs : List (Key × V)} {ds : List (D × D)}, FrK G B kvs ds → FrK G B (kvs.map fun kv => if kv.1 = k then (kv.1, v) else kv) (ds.map fun p => if p.1.key = kd.key then (p.1, d) else p)
  | _, _, .nil => .nil
  | _, _, .cons (k := k0) (kd := kd0) h f l => by
    simp only [List.map_cons]
    rw [h, hk]
    by_cases e : k0 = k
    · rw [if_pos e, if_pos (by rw [e])]
      have := frK_map hk hv l
      rw [hk] at this
      exact .cons h hv this
    · rw [if_neg e, if_neg (fun z => e (Option.some.inj z))]
      have := frK_map hk hv l
      rw [hk] at this
      exact .cons h f this
theorem frT_map {B : Hp} {k : List Key} {kd d : D} {v : V} (hk : kd.keyT = some k) (hv : Fr G B v d) : ∀ {kvs : List (List Key × V)} {ds : List (D × D)}, FrT G B kvs ds → FrT G B (kvs.map fun kv => if kv.1 = k then (kv.1, v) else kv) (ds.map fun p => if p.1.keyT = kd.keyT then (p.1, d) else p)
  | _, _, .nil => .nil
  | _, _, .cons (k := k0) (kd := kd0) h f l => by
    simp only [List.map_cons]
    rw [h, hk]
    by_cases e : k0 = k
    · rw [if_pos e, if_pos (by rw [e])]
      have := frT_map hk hv l
      rw [hk] at this
      exact .cons h hv this
    · rw [if_neg e, if_neg (fun z => e (Option.some.inj z))]
      have := frT_map hk hv l
      rw [hk] at this
      exact .cons h f this
theorem FrK.snoc {B : Hp} {k : Key} {v : V} {kd d : D} (hk : kd.key = some k) (hv : Fr G B v d) : ∀ {kvs : List (Key × V)} {ds : List (D × D)}, FrK G B kvs ds → FrK G B (kvs ++ [(k, v)]) (ds ++ [(kd, d)])
  | _, _, .nil => .cons hk hv .nil
  | _, _, .cons h f l => .cons h f (l.snoc hk hv)
theorem FrT.snoc {B : Hp} {k : List Key} {v : V} {kd d : D} (hk : kd.keyT = some k) (hv : Fr G B v d) : ∀ {kvs : List (List Key × V)} {ds : List (D × D)}, FrT G B kvs ds → FrT G B (kvs ++ [(k, v)]) (ds ++ [(kd, d)])
  | _, _, .nil => .cons hk hv .nil
  | _, _, .cons h f l => .cons h f (l.snoc hk hv)
theorem frK_put {B : Hp} {k : Key} {kd d : D} {v : V} (hk : kd.key = some k) (hv : Fr G B v d) {kvs : List (Key × V)} {ds : List (D × D)} (h : FrK G B kvs ds) : FrK G B (putK kvs k v) (dPut D.key ds kd d) := by
  unfold putK dPut
  rw [frK_any hk h]
  split
  · exact frK_map hk hv h
  · exact h.snoc hk hv
theorem frT_put {B : Hp} {k : List Key} {kd d : D} {v : V} (hk : kd.keyT = some k) (hv : Fr G B v d) {kvs : List (List Key × V)} {ds : List (D × D)} (h : FrT G B kvs ds) : FrT G B (putK kvs k v) (dPut D.keyT ds kd d) := by
  unfold putK dPut
  rw [frT_any hk h]
  split
  · exact frT_map hk hv h
  · exact h.snoc hk hv
def gPut : Fd → D → D → Option Fd
  | .lst xs, .int i, d => (ixN xs.length i).map fun j => .lst (xs.set j d)
  | .dic (false, kvs), k, d => if kvs.length < 100000 then k.key.map fun _ => .dic (false, dPut D.key kvs k d) else none
  | .dic (true, kvs), k, d => if kvs.length < 100000 then k.keyT.map fun _ => .dic (true, dPut D.keyT kvs k d) else none
  | _, _, _ => none
def stoM (mo mi mv : M R) : M Fl := bnd (frz mv) fun d => bnd (opd mo) fun o => bnd (frz mi) fun k env => match getC env o with
  | none => .fail
  | some x => match gPut x k d with
    | none => .fail
    | some x' => .ok .nx (putC env o x')
def tSto (to ti tv : TE) : TS := fun Z σ H => tv σ H fun v H1 => to σ H1 fun x H2 => ti σ H2 fun y H3 => rSetL x y v H3 (Z.nx σ) ∨ ∃ a H4, x = .ref a ∧ DPut H3 a y v H4 ∧ Z.nx σ H4
section
variable {X : Cx} {pin : Nat → Prop} {E : WX} {o i value : Expr} {pos pos' : Pos}
theorem ps_sto {to ti tv : TE} (hu : X.A.units + 1 < cLine) (ho : PE X o to) (hi : PE X i ti) (hv : PE X value tv) (hs : swapsWith value (some (.Subscript o i pos')) pos.line X.env = pure false) : PS X (.Assign [.Subscript o i pos'] value pos) (tSto to ti tv) := by
  refine ⟨fun pins s σ H Z I h => ?_⟩
  refine wpAny_Assign_Subscript (thn (hv.run pins s σ H _ I h) fun r s1 ⟨v, H1, I1, rv, q1⟩ => thn (ho.run pins s1 σ H1 _ I1 q1) fun u s2 ⟨x, H2, I2, rx, q2⟩ => thn (hi.run pins s2 σ H2 _ I2 q2) fun iv s3 ⟨y, H3, I3, ry, q3⟩ => ?_) hs
  rcases q3 with q3 | ⟨a, H4, ex, g, q3⟩
  · exact thn (set_list pins s3 σ H3 x y v u iv r _ I3 rx ry rv q3) fun _ s4 ⟨H4, I4, q4⟩ => ⟨σ, H4, I4, q4⟩
  · subst ex
    obtain rfl : u = Value.ref a := rx
    exact d_setItem hu I3 g ry rv fun s4 I4 => ⟨σ, H4, I4, q3⟩
theorem opd_runS {k : Op → M Fl} {m : M R} {Z : Ends} {B H : Hp} {σ : L2.St} {env : Env} {ss : SS} {Q : VK} (S : SR G B σ H env ss) (h : OkS G pin E σ B H ss (bnd (opd m) k env) Z)
    (hk : ∀ o env1 v B1 H1 ss1, Step B H ss B1 H1 ss1 → Kp (fun _ => True) ss ss1 → SR G B1 σ H1 env1 ss1 → OpRep G σ B1 H1 ss1 v o → OkS G pin E σ B1 H1 ss1 (k o env1) Z → Q v H1) : tE G E m σ H Q := by
  have e : bnd (opd m) k = bnd m fun r => bnd (lift (toOp r)) k := by
    funext x; unfold opd bnd
    cases m x <;> rfl
  rw [e] at h
  refine tE_runS S h fun r env1 v s B1 H1 ss1 hm st kp S1 R1 hn h1 => ?_
  cases r with
  | d x => exact hk (.d x) env1 v B1 H1 ss1 st kp S1 R1.2 h1
  | «at» i => exact hk (.at i) env1 v B1 H1 ss1 st kp S1 R1.2 h1
  | fld i j =>
    obtain ⟨_, p, q, e1, e2, e3⟩ := R1
    exact hk (.fld i j) env1 v B1 H1 ss1 st kp S1 ⟨p, q, e1, e2, (List.getElem?_eq_some_iff.mp e3).1, fun p' z => by rw [e3] at z; cases z; rfl⟩ h1
  | ins c fs => exact h1.elim
  | lst xs =>
    obtain ⟨B2, d, hd, hf, e1, S2, st2'⟩ := frsh_freeze S1 R1 (by intro d; simp)
    have st2 := st2' B H ss st hn
    cases hd
    refine hk (.d (.lst xs)) env1 v B2 H1 ss1 st2 kp S2 hf ?_
    have h0 : OkS G pin E σ B H ss (k (.d (.lst xs)) env1) Z := by
      have := h
      unfold bnd at this
      rw [hm] at this
      exact this
    exact OkS.step st2 (kp.weak fun _ _ => trivial) (Pin.refl _ _) h0
  | dic xs =>
    obtain ⟨B2, d, hd, hf, e1, S2, st2'⟩ := frsh_freeze S1 R1 (by intro d; simp)
    have st2 := st2' B H ss st hn
    cases hd
    refine hk (.d (.dic xs)) env1 v B2 H1 ss1 st2 kp S2 hf ?_
    have h0 : OkS G pin E σ B H ss (k (.d (.dic xs)) env1) Z := by
      have := h
      unfold bnd at this
      rw [hm] at this
      exact this
    exact OkS.step st2 (kp.weak fun _ _ => trivial) (Pin.refl _ _) h0
theorem fd_put {B H : Hp} {p : Addr} {x x' : Fd} {k d : D} {y v : V} (e : Ex B H) (hf : FdOk G B H (.ref p) x (some p)) (hk : Fr G B y k) (hd : Fr G B v d) (hg : gPut x k d = some x') :
    ∃ o', FdOk G B (upd H p o') (.ref p) x' (some p) ∧ ((∃ xs i j, H p = some (.lst xs) ∧ y = .int i ∧ ixN xs.length i = some j ∧ o' = .lst (xs.set j v)) ∨ DPut H p y v (upd H p o')) := by
  cases x with
  | fz d => cases hg
  | lst xs =>
    obtain ⟨_, hb, vs, hH, hl⟩ := hf
    cases k with
    | int i =>
      simp only [gPut] at hg
      rw [Option.map_eq_some_iff] at hg
      obtain ⟨j, hj, rfl⟩ := hg
      cases hk
      exact ⟨_, ⟨rfl, hb, _, upd_same, hl.set hd j⟩, .inl ⟨vs, i, j, hH, rfl, by rw [hl.length]; exact hj, rfl⟩⟩
    | _ => simp [gPut] at hg
  | dic kvs =>
    obtain ⟨_, hb, hx⟩ := hf
    rcases hx with ⟨ws, l, rfl, hH, hl⟩ | ⟨ws, l, rfl, hH, hl⟩
    · simp only [gPut] at hg
      split at hg
      · rename_i hlt
        rw [Option.map_eq_some_iff] at hg
        obtain ⟨kk, hkk, rfl⟩ := hg
        have := fr_key hk hkk
        subst this
        exact ⟨_, ⟨rfl, hb, .inl ⟨_, _, rfl, upd_same, frK_put hkk hd hl⟩⟩, .inr (DPut.k hH (by rw [hl.length]; exact lim_lt hlt))⟩
      · cases hg
    · simp only [gPut] at hg
      split at hg
      · rename_i hlt
        rw [Option.map_eq_some_iff] at hg
        obtain ⟨kk, hkk, rfl⟩ := hg
        obtain ⟨b, rfl, hb2⟩ := vw_keyT e (.fr hk) hkk
        exact ⟨_, ⟨rfl, hb, .inr ⟨_, _, rfl, upd_same, frT_put hkk hd hl⟩⟩, .inr (DPut.t hH hb2 (by rw [hl.length]; exact lim_lt hlt))⟩
      · cases hg
theorem js_sto {mo mi mv : M R} (hu : X.A.units + 1 < cLine) (ho : JE G X E o mo) (hi : JE G X E i mi) (hv : JE G X E value mv) (hs : swapsWith value (some (.Subscript o i pos')) pos.line X.env = pure false := by rfl) : JS G X pin E (.Assign [.Subscript o i pos'] value pos) (stoM mo mi mv) := by
  refine ps_weak (ps_sto hu ho hi hv hs) fun Z σ H ⟨B, env, ss, S, h⟩ => ?_
  unfold stoM at h
  refine frz_runS S h fun d env1 v B1 H1 ss1 st1 kp1 S1 f1 h1 => ?_
  refine opd_runS S1 h1 fun oo env2 x B2 H2 ss2 st2 kp2 S2 O2 h2 => ?_
  refine frz_runS S2 h2 fun k env3 y B3 H3 ss3 st3 kp3 S3 f3 h3 => ?_
  have O3 : OpRep G σ B3 H3 ss3 x oo := OpRep.step st3.eb kp3 O2
  have f1' : Fr G B3 v d := (f1.mono st2.eb).mono st3.eb
  cases hg : getC env3 oo with
  | none => simp only [hg] at h3; exact h3.elim
  | some z =>
    simp only [hg] at h3
    cases hx : gPut z k d with
    | none => simp only [hx] at h3; exact h3.elim
    | some x' =>
      simp only [hx] at h3
      obtain ⟨p, rfl, hf, hp, hw⟩ := cell_at S3 O3 hg
      obtain ⟨o', hf', hc⟩ := fd_put S3.ex hf f3 f1' hx
      obtain ⟨S', st'⟩ := hw x' o' hf'
      have fin := h3 σ B3 _ ss3 st' (Kp.refl _ _) (Pin.refl _ _) S'
      rcases hc with ⟨xs, i, j, e1, rfl, e2, rfl⟩ | hc
      · exact .inl ⟨p, xs, i, j, rfl, rfl, e1, e2, fin⟩
      · exact .inr ⟨p, _, rfl, hc, fin⟩
end
/-! ### enumerate -/
def enumD : Nat → List D → List D
  | _, [] => []
  | k, x :: r => .tup [.int k, x] :: enumD (k + 1) r
theorem enumD_len : ∀ (k : Nat) (xs : List D), (enumD k xs).length = xs.length
  | _, [] => rfl
  | k, x :: r => by simp [enumD, enumD_len (k + 1) r]
theorem enumD_get : ∀ (k : Nat) (xs : List D) (i : Nat) (d : D), (enumD k xs)[i]? = some d → ∃ x, xs[i]? = some x ∧ d = .tup [.int ((k + i : Nat) : Int), x]
  | _, [], i, d, h => by simp [enumD] at h
  | k, x :: r, 0, d, h => by simp [enumD] at h; exact ⟨x, rfl, h.symm⟩
  | k, x :: r, i + 1, d, h => by
    simp only [enumD, List.getElem?_cons_succ] at h
    obtain ⟨y, h1, h2⟩ := enumD_get (k + 1) r i d h
    refine ⟨y, by simpa using h1, ?_⟩
    rw [h2]
    have : k + 1 + i = k + (i + 1) := by omega
    rw [this]
def itEn (m : M R) : M (List D) := bnd (frz m) fun d => match d with
  | .lst xs => if xs.length < 100000 then ret (enumD 0 xs) else failM
  | _ => failM
theorem new_tup {B H : Hp} {p : Addr} {vs : List V} {ds : List D} (e : Ex B H) (l : FrL G B vs ds) (hp : H p = none) : Grow B H (upd B p (.tup vs)) (upd H p (.tup vs)) ∧ Fr G (upd B p (.tup vs)) (.ref p) (.tup ds) := by
  have bp : B p = none := e.back hp
  refine ⟨⟨Ex.new bp, Ex.new hp, fun b o h => ?_, fun b o h h0 => ?_⟩, .tup upd_same (l.mono (Ex.new bp))⟩
  · by_cases hb : b = p
    · subst hb; rw [upd_same] at h ⊢; exact h
    · rw [upd_ne hb] at h ⊢; exact e _ _ h
  · rw [upd_ne (fun z => by rw [z, hp] at h; cases h)]; exact h0
theorem itOk_enum {B : Hp} {p : Addr} {vs : List V} {ds : List D} {K : PySem.W.Frag} (hp : B p = some (.lst vs)) (l : FrL G B vs ds) : ItOk G B (Ite K p) (enumD 0 ds) := fun i H' e => by
  have hs : SqL K H' p vs := SqL.of (e _ _ hp)
  refine ⟨fun hi => ?_, fun hi => ?_, fun v H'' hy d hd B' eb e' => ?_⟩
  · rw [enumD_len, ← l.length] at hi
    exact ⟨vs, vs[i], hs, List.getElem?_eq_getElem hi⟩
  · rw [enumD_len, ← l.length] at hi
    exact ⟨vs, hs, hi⟩
  · obtain ⟨T, x, rfl, hT, rfl, hx⟩ := hy
    obtain ⟨y, h1, rfl⟩ := enumD_get 0 ds i d hd
    have hxi := hx vs hs
    obtain ⟨y', h2, f⟩ := l.getV hxi
    rw [h1] at h2; cases h2
    rw [Nat.zero_add]
    obtain ⟨g, f2⟩ := new_tup (vs := [.int (i : Nat), x]) (ds := [.int ((i : Nat) : Int), y]) e' (.cons (.int _) (.cons (f.mono eb) .nil)) hT
    exact ⟨_, g, f2⟩
section
variable {X : Cx} {pin : Nat → Prop} {E : WX} {e : Expr} {pos : Pos} {elts : List Expr} {kk : Nat} {tpos : Pos}
theorem ji_enum {m : M R} {p : Pos} (hm : X.mg "enumerate" = none) (he : JE G X E e m) (hg : Gl X "enumerate" := by rfl) (hs : starEach [e] X.env = [(false, eval e X.env)] := by rfl) : JI G X E (.Tuple elts kk tpos) (.Call (.Name "enumerate" p) [e] [] pos) (itEn m) := by
  refine pi_weak (pi_enum hg hm (pa_cons he pa_nil hs) hs) fun σ H R ⟨B, env, ss, S, h⟩ => ?_
  unfold itEn at h
  cases hd : frz m env with
  | fail => unfold bnd at h; rw [hd] at h; exact h.elim
  | exc x e =>
    have h' : Ok G E σ B H ss (bnd (frz m) (fun d => ret d) env) fun _ _ _ _ _ _ => True := by
      unfold bnd at h ⊢
      rw [hd] at h ⊢
      exact h
    unfold frz at h' hd
    rw [bnd_assoc] at h'
    refine tE_run S h' fun r env1 v s B1 H1 ss1 hm st kp S1 R1 hn _ => ?_
    unfold bnd at hd
    rw [hm] at hd
    exact absurd hd frzR_exc
  | ok d env1 =>
    unfold bnd at h
    rw [hd] at h
    cases d with
    | lst xs =>
      refine frz_ok S hd fun v B1 H1 ss1 st kp S1 f => ?_
      cases f with
      | lst hp l =>
        simp only at h
        split at h
        · exact ⟨_, _, rfl, SqL.of (S1.ex _ _ hp), h B1 H1 ss1 [] st kp S1 (by simp) _ (itOk_enum hp l)⟩
        · exact h.elim
    | _ => exact h.elim
end
end DV

set_option Elab.async false
set_option linter.all false
set_option maxRecDepth 100000
set_option maxHeartbeats 1000000
/-! DV20: chains, unary minus, names of the module, what a def of the text is. -/
namespace DV
open PySem L2 PySem.Spec PyProof.Rows
variable {G : Cfg}
def gNeg : List D → Option R
  | [.int i] => some (.d (.int (-i)))
  | _ => none
theorem rd_neg : RdV G (fun vs H Q => ∃ x, vs = [x] ∧ (rU fun i => V.int (-i)) x H Q) gNeg := by
  intro B H vs ds q e hv hg Q k
  unfold gNeg at hg
  split at hg
  · obtain ⟨v, rfl, h1⟩ := vwl1 hv
    cases hg
    have := vw_int h1
    subst this
    exact ⟨_, rfl, _, rfl, Out.int e k⟩
  · cases hg
/-! ### a op b op c -/
def chainM (g g' : List D → Option R) (ma mb mc : M R) : M R := bnd (opd ma) fun o1 => bnd (opd mb) fun o2 => bnd (bnd (seen [o1, o2]) fun ds => lift (g ds)) fun r => match r with
  | .d (.bl true) => bnd (opd mc) fun o3 => bnd (seen [o2, o3]) fun ds => lift (g' ds)
  | .d (.bl false) => ret (.d (.bl false))
  | _ => failM
/-- an operation in the midst -/
theorem mid_rd {β : Type} {E : WX} {rd : List V → Hp → VK → Prop} {g : List D → Option R} (hr : RdV G rd g) {k : R → M β} {P : β → Env → Hp → Hp → SS → List Addr → Prop} {B H : Hp} {σ : L2.St} {env : Env} {ss : SS} {vs : List V} {os : List Op} {Q : VK} (S : SR G B σ H env ss) (ho : OpsRep G σ B H ss vs os)
    (h : Ok G E σ B H ss (bnd (bnd (seen os) (fun ds => lift (g ds))) k env) P)
    (hk : ∀ r v s B1 H1, Step B H ss B1 H1 ss → SR G B1 σ H1 env ss → NewV G B1 H1 v r s → Ex B B1 → Ok G E σ B1 H1 ss (k r env) P → Q v H1) : rd vs H Q := by
  unfold bnd at h
  cases hs : seen os env with
  | fail => simp only [bnd, hs] at h; exact h.elim
  | exc x e => unfold seen at hs; split at hs <;> cases hs
  | ok ds env1 =>
    have he : vws env os = some ds ∧ env1 = env := by
      unfold seen at hs
      split at hs
      · rename_i hh; cases hs; exact ⟨hh, rfl⟩
      · cases hs
    obtain ⟨he, rfl⟩ := he
    simp only [bnd, hs] at h
    cases hg : g ds with
    | none => simp only [hg, lift, failM] at h; exact h.elim
    | some q =>
      simp only [hg, lift, ret] at h
      refine hr B H vs ds q S.ex (vws_ok S ho he) hg Q fun v s B' H' gr nv hn => ?_
      obtain ⟨S', st'⟩ := S.grow gr.eb gr.eh gr.ex gr.bn
      exact hk q v s B' H' st' S' nv gr.eb (Ok.step st' (Kp.refl _ _) h)
section
variable {X : Cx} {E : WX} {a b c e : Expr} {pos : Pos} {ma mb mc : M R}
theorem tChain_of {r r' : R2} {g g' : List D → Option R} (hr : RdV G (r2L r) g) (hr' : RdV G (r2L r') g') {σ : L2.St} {H : Hp} {Q : VK} (h : tE G E (chainM g g' ma mb mc) σ H Q) : tChain r r' (tE G E ma) (tE G E mb) (tE G E mc) σ H Q := by
  obtain ⟨B, env, ss, S, h⟩ := h
  unfold chainM at h
  refine opd_run S h fun o1 env1 x B1 H1 ss1 st1 kp1 S1 O1 h1 => ?_
  refine opd_run S1 h1 fun o2 env2 y B2 H2 ss2 st2 kp2 S2 O2 h2 => ?_
  have ho : OpsRep G σ B2 H2 ss2 [x, y] [o1, o2] := .cons (OpRep.step st2.eb kp2 O1) (.cons O2 .nil)
  have key : ∀ vs, vs = [x, y] → r2L r vs H2 (fun z H3 => ∃ k, z = .bl k ∧ (if k = true then tE G E mc σ H3 fun w' H4 => r' y w' H4 Q else Q (.bl false) H3)) := by
    rintro _ rfl
    refine mid_rd hr S2 ho h2 fun q v s B3 H3 st3 S3 nv eb h3 => ?_
    cases q with
    | d d =>
      cases d with
      | bl k =>
        obtain ⟨_, f⟩ := nv
        cases f
        refine ⟨k, rfl, ?_⟩
        cases k with
        | true =>
          simp only [if_true]
          refine opd_run S3 h3 fun o3 env4 w B4 H4 ss4 st4 kp4 S4 O3 h4 => ?_
          have ho4 : OpsRep G σ B4 H4 ss4 [y, w] [o2, o3] := .cons (OpRep.step (st3.eb.trans st4.eb) kp4 O2) (.cons O3 .nil)
          obtain ⟨_, _, e, q⟩ := fin_rd hr' S4 ho4 h4
          cases e
          exact q
        | false =>
          rw [if_neg (by simp)]
          exact Ok.get h3 S3 _ [] rfl ⟨rfl, .bl _⟩
      | _ => exact h3.elim
    | _ => exact h3.elim
  obtain ⟨_, _, e, q⟩ := key _ rfl
  cases e
  exact q
theorem je_chain {op op' : CmpOp} {r r' : R2} {g g' : List D → Option R} (ho : OpR X (compareOp op) r) (hr : RdV G (r2L r) g) (ho' : OpR X (compareOp op') r') (hr' : RdV G (r2L r') g') (ha : JE G X E a ma) (hb : JE G X E b mb) (hc : JE G X E c mc)
    (hm : lastMarks [op, op'] [b, c] = false := by with_unfolding_all rfl) : JE G X E (.Compare a [op, op'] [b, c] pos) (chainM g g' ma mb mc) :=
  pe_weak (pe_chain ho ho' ha hb hc hm) fun σ H Q h => tChain_of hr hr' h
theorem jt_chain {op op' : CmpOp} {r r' : R2} {g g' : List D → Option R} (ho : OpR X (compareOp op) r) (hr : RdV G (r2L r) g) (ho' : OpR X (compareOp op') r') (hr' : RdV G (r2L r') g') (ha : JE G X E a ma) (hb : JE G X E b mb) (hc : JE G X E c mc)
    (hm : lastMarks [op, op'] [b, c] = false := by with_unfolding_all rfl) : JT G X E (.Compare a [op, op'] [b, c] pos) (tsM (chainM g g' ma mb mc)) :=
  pt_weak (pt_chain ho ho' ha hb hc hm) fun σ H Q h => tTest_of (fun Q h => tChain_of hr hr' h) h
theorem je_neg (ha : JE G X E a ma) : JE G X E (.UnaryOp .USub a pos) (opM gNeg [ma]) := je_un un_neg rd_neg ha
/-! ### names of the module that hold a text, a number -/
theorem je_gstr {x : Str} {s : Str} (l : List Nat) (hm : ∃ t, X.mg x = some (.str s t)) (hx : s = ⟨l.toArray⟩ := by decide +kernel) (hg : Gl X x := by rfl) (hd : (x == ("__debug__" : Str)) = false := by decide) : JE G X E (.Name x pos) (ret (.d (.str l))) := by
  obtain ⟨t, hm⟩ := hm
  subst hx
  exact je_glob (v := .str ⟨l.toArray⟩) hm ⟨_, rfl⟩ (fun B => .str l) hg hd
theorem je_gint {x : Str} {i : Int} (hm : ∃ t, X.mg x = some (.int i t)) (hg : Gl X x := by rfl) (hd : (x == ("__debug__" : Str)) = false := by decide) : JE G X E (.Name x pos) (ret (.d (.int i))) := by
  obtain ⟨t, hm⟩ := hm
  exact je_glob (v := .int i) hm ⟨_, rfl⟩ (fun B => .int i) hg hd
theorem tC_ty {x : Str} {T : String} (hm : X.mg x = none) (hv : bootBuiltins x = some (.type T)) (hg : Gl X x := by rfl) (hn : x ≠ "__name__" := by decide) (hd : (x == ("__debug__" : Str)) = false := by decide) : PE X (.Name x pos) (tC (.ty T)) := pe_bltn hg hm hv rfl hn hd
end
/-! ### a def of the text -/
structure DefAt (K : PySem.W.Frag) (x qual : Str) (st : Stmt) (ps : List Str) (f : Addr) (fd : FuncData) : Prop where
  F : Fun K x qual st f fd
  b : L2.Binds K fd ps []
  k : PySem.W.keepIn K (.ref f) = true
theorem fn_fail {P : Program} {w : World} {K : PySem.W.Frag} {mg : Str → Option Value} {base : Heap} {f : Addr} {fd : FuncData} {ps : List Str} {k : Nat} : FnOk P w K mg base (L2.CX P w) k f fd ps (spF G ps.length (fun _ => .fail)) := by
  refine ⟨fun vs H Q E h => h.1, fun A outer s H args us vs Q E hr e hb hv h => ?_⟩
  obtain ⟨_, _, _, _, _, _, _, h⟩ := h
  exact h.elim
/-- an exception class with its __init__ -/
structure ExcAt (K : PySem.W.Frag) (mg : Str → Option Value) (x : Str) (C fI : Addr) : Prop where
  g : mg x = some (.ref C)
  T : OexC K C
  iC : PySem.W.findIn K (.ref C) "__init__" = some (some (.ref fI))
  tI : PySem.W.typeIn K (.ref fI) = some (.type "function")
  xf : XfC K C
end DV

set_option Elab.async false
set_option linter.all false
set_option maxRecDepth 100000
set_option maxHeartbeats 1000000
/-! DV21: small things that the printed walks use. -/
namespace DV
open PySem L2 PySem.Spec PyProof.Rows
variable {G : Cfg}
theorem hu5_of {A : Around} {k : Nat} (hr : Room k A) : A.units + 65 < cLine := by
  have := hr.un
  omega
theorem exm_of {K : PySem.W.Frag} {C D : Addr} {b : Bool} (x : XfC K C) (t : PySem.W.typeIn K (.ref C) = some (.type "type")) (h : PySem.W.subIn K (.ref D) (.ref C) = some b) : PySem.W.exmOne K (.ref D) (.ref C) = some b :=
  PySem.W.exm_ref x.exC x.hdC t h
/-- a block's names, checked by computing -/
def blkB (N : List Str) (sc scope : Scope) (own : List (Str × Nat)) : Bool :=
  decide (scope.kind = .function) && ((scope.names.all fun y => decide (scope.names.lookup y.1 = some y.2)) && ((own.all fun p => decide (N[p.2]? = some p.1)) && ((scope.names.all fun y => !decide (y.2 = .free) || (decide (sc.names.lookup y.1 = some .cell) || decide (sc.names.lookup y.1 = some .free))) && (scope.names.all fun y => !(decide (y.2 = .local) || decide (y.2 = .cell)) || (decide (y.1 ∈ own.map (·.1)) || !decide (y.1 ∈ N))))))
theorem blk_of {N : List Str} {sc scope : Scope} {own : List (Str × Nat)} (h : blkB N sc scope own = true) : BlkOk N sc scope own := by
  unfold blkB at h
  simp only [Bool.and_eq_true, List.all_eq_true, decide_eq_true_eq, Bool.or_eq_true, Bool.not_eq_true', decide_eq_false_iff_not] at h
  obtain ⟨h1, h2, h3, h4, h5⟩ := h
  refine ⟨h1, h2, fun p hp => h3 p hp, fun y hy e => ?_, fun y hy e => ?_⟩
  · rcases h4 y hy with z | z
    · exact absurd e z
    · exact z
  · rcases h5 y hy with z | z
    · rcases e with e | e <;> simp [e] at z
    · exact z
/-- a, b = e -/
def asgTM (m : M R) (t : Tg) : M Fl := bnd (frz m) fun d env => match t d env with
  | some env' => .ok .nx env'
  | none => .fail
section
variable {X : Cx} {pin : Nat → Prop} {E : WX} {e tg : Expr} {pos : Pos}
theorem js_asgT {m : M R} {t : Tg} (he : JE G X E e m) (hg : JG G X pin tg t) (hs : swapsWithSole [tg] e pos.line X.env = pure false := by rfl) (hw : swappedStores [tg] e X.env = pure none := by rfl) (h1 : (assignEach [tg] X.env).map (·.2) = [assign tg X.env] := by rfl) : JS G X pin E (.Assign [tg] e pos) (asgTM m t) := by
  refine ps_weak (ps_asg he hg hs hw h1) fun Z σ H ⟨B, env, ss, S, h⟩ => ?_
  unfold asgTM at h
  refine frz_runS S h fun d env1 v B1 H1 ss1 st kp S1 f h1 => ?_
  refine ⟨B1, env1, ss1, d, S1, f, ?_⟩
  cases ht : t d env1 with
  | none => rw [ht] at h1; exact h1.elim
  | some env' =>
    rw [ht] at h1
    exact ⟨env', rfl, fun σ' B' H' ss' st' kp' pn' S' => h1 σ' B' H' ss' st' kp' pn' S'⟩
end
end DV

set_option Elab.async false
set_option linter.all false
set_option maxRecDepth 100000
set_option maxHeartbeats 1000000
/-! DV22: the law's end. -/
namespace DV
open PySem L2 PySem.Spec PyProof.Rows
variable {G : Cfg}
/-- the law's promise: a list of at most 63 numbers is handed in, True comes out -/
def spLaw (K : PySem.W.Frag) : Sp := fun vs H Q _ => ∃ (a : Addr) (ns : List Int), vs = [.ref a] ∧ SqL K H a (ns.map V.int) ∧ ns.length ≤ 63 ∧ ∀ H', Q (.bl true) H'
theorem frsh_bl {B H : Hp} {ss : SS} {v : V} {b : Bool} {s : SA} (h : FrshOk G B H ss v (.f (.fz (.bl b))) s) : v = .bl b := by
  obtain ⟨⟨a, _, hf⟩, _⟩ := h
  cases a with
  | none => cases hf; rfl
  | some p => exact hf.elim
theorem law_imp {P : Program} {w : World} {mg : Str → Option Value} {base : Heap} {CX : CXT} {k : Nat} {f : Addr} {fd : FuncData} {x : Str} {fn : Fn} {K : PySem.W.Frag} (hK : G.K = K)
    (hl : ∀ ns : List Int, ns.length ≤ 63 → ∃ outs, fn [.f (.fz (.scr ns))] = .ret (.f (.fz (.bl true))) outs) (F : FnOk P w K mg base CX k f fd [x] (spF G 1 fn)) : FnOk P w K mg base CX k f fd [x] (spLaw K) := by
  refine F.imp fun vs H Q E ⟨a, ns, e, hS, hn, q⟩ => ?_
  subst e
  obtain ⟨outs, ho⟩ := hl ns hn
  refine ⟨rfl, H, [.f (.fz (.scr ns))], [[none]], Ex.refl _, .cons ⟨none, rfl, .scr (by rw [hK]; exact hS)⟩ .nil, by simp [fl], ?_⟩
  rw [ho]
  intro v B' H' ss' s st kp ex os nd fr hs
  rw [frsh_bl fr]
  exact q H'
theorem walk {l : PySem.W.OpenLaw} {q : Program} {loose : List Str} {XP : (Str → Option Value) → Heap → Prop} {YP : World → Heap → Prop} {d : DefRec} {K : Params → PySem.W.Frag} {x : Str} {k : Nat} (hn : l.most = some 63) (hdf : d.params.defaults = []) (hr : Room k callerA)
    (hY : ∀ (w : World) (h : Heap), YP w h → (K w.params).In h)
    (F : ∀ (w : World) (mg : Str → Option Value) (fa : Addr) (h : Heap), (K w.params).In h → h.Ns mainGlobals mg → mg d.name = some (.ref fa) →
      ∃ fd : FuncData, (∀ (s : Shared) (u : Value), BindsTo s fd ⟨[u], []⟩ [(x, u)]) ∧ ∀ base : Heap, (K w.params).In base → base.Ns mainGlobals mg → FnOk l.prog w (K w.params) mg base (L2.CX l.prog w) k fa fd [x] (spLaw (K w.params))) :
    PySem.W.WalkO q loose XP YP l.row.toRowW d [] (fun f vs => PySem.call f vs) :=
  L2.walk_of (n := 63) (k := k) (x := x) (CX := fun w => L2.CX l.prog w) (sp := fun w => spLaw (K w.params)) hn (by decide) hdf hr hY F (fun _ _ a ns hl _ hS => ⟨a, ns, rfl, hS, hl, fun _ => rfl⟩) fun w H s e s' h => by
    obtain ⟨_, _, _, _, _, _, _, _, _, _, _, _, z⟩ := h
    exact z
/-- what stands in the written part of an own exception class -/
theorem oex_mk {K : PySem.W.Frag} {C : Addr} {nm q : Str} {N : Addr} {bs bm : List Value} {sn : List Str} {sub : List Value} {ab : Bool} {col : Option Bool} {dd : Option Addr} {m0 m1 m2 m3 m5 : Option Value}
    (xL : K.lookup C = some (excClassObj nm q C N bs bm true sn sub ab col dd m0 m1 m2 m3 m5 "ValueError.__new__")) (hr : PySem.HandSPX.refsVE bm = true)
    (sa : PySem.W.findIn K (.ref C) "__setattr__" = some (some (.builtin "object.__setattr__"))) (eC : PySem.W.subIn K (.ref C) (.type "BaseException") = some true) (tC : PySem.W.typeIn K (.ref C) = some (.type "type")) (kC : PySem.W.keepIn K (.ref C) = true) : OexC K C :=
  ⟨⟨nm, q, N, bs, bm, sn, sub, ab, col, dd, m0, m1, m2, m3, m5, xL, hr⟩, sa, eC, tC, kC⟩
theorem kit_t {K : PySem.W.Frag} {C D : Addr} (x : XfC K C) (t : PySem.W.typeIn K (.ref C) = some (.type "type")) (h : PySem.W.subIn K (.ref D) (.ref C) = some true) : PySem.W.kitOne K (.ref D) (.ref C) = some true := by
  obtain ⟨cd, hc, _⟩ := PySem.W.any_some x.hdC
  unfold PySem.W.kitOne
  split
  · rfl
  · unfold PySem.W.kitCls
    simp only [hc, t]
    exact h
theorem kit_f {K : PySem.W.Frag} {C D : Addr} (x : XfC K C) (t : PySem.W.typeIn K (.ref C) = some (.type "type")) (hs : PySem.W.subIn K (.ref C) (.ref C) = some true) (h : PySem.W.subIn K (.ref D) (.ref C) = some false) : PySem.W.kitOne K (.ref D) (.ref C) = some false := by
  obtain ⟨cd, hc, _⟩ := PySem.W.any_some x.hdC
  unfold PySem.W.kitOne
  split
  · rename_i e
    have e2 : Value.ref D = Value.ref C := eq_of_beq e
    rw [e2, hs] at h
    cases h
  · unfold PySem.W.kitCls
    simp only [hc, t]
    exact h
theorem kit_b {K : PySem.W.Frag} {D : Addr} {T : String} {b : Bool} (hm : PySem.W.kitMeta T = true) (h : PySem.W.subIn K (.ref D) (.type T) = some b) : PySem.W.kitOne K (.ref D) (.type T) = some b := by
  unfold PySem.W.kitOne
  rw [if_neg (by intro z; exact absurd (eq_of_beq z) (by intro y; cases y))]
  unfold PySem.W.kitCls
  simp only [hm]
  exact h
theorem cls_of {K : PySem.W.Frag} {C : Addr} (h : PySem.W.hasDictIn K C = true) : (PySem.W.clsIn K C).isSome = true := by
  obtain ⟨cd, hc, _⟩ := PySem.W.any_some h
  rw [hc]; rfl
end DV

set_option Elab.async false
set_option linter.all false
set_option maxRecDepth 100000
set_option maxHeartbeats 1000000
/-! DV23: mirrors are run by simp. -/
namespace DV
open L2
/-- not by computing: so that the kernel need not compute it again -/
theorem nr {α : Sort _} {a b : α} (h : a = b) : a = b := h
def Res.bind {α β : Type} (r : Res α) (k : α → M β) : Res β := match r with
  | .fail => .fail
  | .ok a e => k a e
  | .exc x e => .exc x e
section
variable {α β : Type}
@[simp] theorem rb_ok {a : α} {e : Env} {k : α → M β} : Res.bind (.ok a e) k = k a e := nr rfl
@[simp] theorem rb_fail {k : α → M β} : Res.bind .fail k = .fail := nr rfl
@[simp] theorem rb_exc {x : Exn} {e : Env} {k : α → M β} : Res.bind (.exc x e) k = .exc x e := nr rfl
theorem bnd_app {m : M α} {k : α → M β} {e : Env} : bnd m k e = Res.bind (m e) k := by unfold bnd Res.bind; cases m e <;> rfl
@[simp] theorem ret_app {a : α} {e : Env} : ret a e = .ok a e := nr rfl
@[simp] theorem fail_app {e : Env} : (failM : M α) e = .fail := nr rfl
@[simp] theorem lift_some {a : α} : lift (some a) = ret a := nr rfl
@[simp] theorem lift_none : lift (none : Option α) = failM := nr rfl
@[simp] theorem rb_ite {c : Prop} [Decidable c] {a b : Res α} {k : α → M β} : Res.bind (if c then a else b) k = if c then Res.bind a k else Res.bind b k := by split <;> rfl
@[simp] theorem ite_app {c : Prop} [Decidable c] {a b : M α} {e : Env} : (if c then a else b) e = if c then a e else b e := by split <;> rfl
end
/-! ### operations -/
def opK (g : List D → Option R) (os : List Op) : M R := fun env => match vws env os with
  | some ds => match g ds with
    | some r => .ok r env
    | none => .fail
  | none => .fail
@[simp] theorem opM_app {g : List D → Option R} {ms : List (M R)} {e : Env} : opM g ms e = Res.bind (args ms e) (opK g) := by
  unfold opM
  rw [bnd_app]
  cases args ms e with
  | ok os e1 =>
    simp only [rb_ok, bnd_app, seen, opK]
    cases vws e1 os with
    | none => rfl
    | some ds => simp only [rb_ok]; cases g ds <;> rfl
  | _ => rfl
@[simp] theorem opK_app {g : List D → Option R} {os : List Op} {e : Env} {ds : List D} (h : vws e os = some ds) : opK g os e = match g ds with | some r => .ok r e | none => .fail := by
  unfold opK; rw [h]
@[simp] theorem args_nil {e : Env} : args [] e = .ok [] e := nr rfl
def argK (r : List (M R)) (o : R) : M (List Op) := match toOp o with
  | some o => fun e => Res.bind (args r e) fun os => ret (o :: os)
  | none => failM
@[simp] theorem args_cons {m : M R} {r : List (M R)} {e : Env} : args (m :: r) e = Res.bind (m e) (argK r) := by
  show bnd (opd m) _ e = _
  rw [bnd_app]
  unfold opd
  rw [bnd_app]
  cases m e with
  | ok o e1 =>
    simp only [rb_ok, argK]
    cases toOp o with
    | none => rfl
    | some o => simp only [lift_some, ret_app, rb_ok, bnd_app]
  | _ => rfl
@[simp] theorem argK_d {r : List (M R)} {x : D} {e : Env} : argK r (.d x) e = Res.bind (args r e) fun os => ret (.d x :: os) := nr rfl
@[simp] theorem argK_lst {r : List (M R)} {x : List D} {e : Env} : argK r (.lst x) e = Res.bind (args r e) fun os => ret (.d (.lst x) :: os) := nr rfl
@[simp] theorem argK_dic {r : List (M R)} {x} {e : Env} : argK r (.dic x) e = Res.bind (args r e) fun os => ret (.d (.dic x) :: os) := nr rfl
@[simp] theorem argK_at {r : List (M R)} {i : Nat} {e : Env} : argK r (.at i) e = Res.bind (args r e) fun os => ret (.at i :: os) := nr rfl
@[simp] theorem argK_fld {r : List (M R)} {i j : Nat} {e : Env} : argK r (.fld i j) e = Res.bind (args r e) fun os => ret (.fld i j :: os) := nr rfl
@[simp] theorem vws_nil {e : Env} : vws e [] = some [] := nr rfl
theorem vws_cons {e : Env} {o : Op} {r : List Op} : vws e (o :: r) = (vw e o).bind fun d => (vws e r).map fun ds => d :: ds := by
  show (match vw e o, vws e r with | some d, some ds => some (d :: ds) | _, _ => none) = _
  generalize vw e o = x
  generalize vws e r = y
  cases x <;> cases y <;> rfl
@[simp] theorem vws_d {e : Env} {x : D} {r : List Op} : vws e (.d x :: r) = (vws e r).map fun ds => x :: ds := vws_cons
theorem vws_at {e : Env} {i : Nat} {r : List Op} : vws e (.at i :: r) = (vw e (.at i)).bind fun d => (vws e r).map fun ds => d :: ds := vws_cons
theorem vws_fld {e : Env} {i j : Nat} {r : List Op} : vws e (.fld i j :: r) = (vw e (.fld i j)).bind fun d => (vws e r).map fun ds => d :: ds := vws_cons
/-! ### frozen arguments -/
@[simp] theorem frz_app {m : M R} {e : Env} : frz m e = Res.bind (m e) frzR := bnd_app
@[simp] theorem frzR_d {x : D} {e : Env} : frzR (.d x) e = .ok x e := nr rfl
@[simp] theorem frzR_lst {x : List D} {e : Env} : frzR (.lst x) e = .ok (.lst x) e := nr rfl
@[simp] theorem frzR_dic {x} {e : Env} : frzR (.dic x) e = .ok (.dic x) e := nr rfl
@[simp] theorem fargs_nil {e : Env} : fargs [] e = .ok [] e := nr rfl
@[simp] theorem fargs_cons {m : M R} {r : List (M R)} {e : Env} : fargs (m :: r) e = Res.bind (frz m e) fun d e1 => Res.bind (fargs r e1) fun ds => ret (d :: ds) := by
  show bnd (frz m) _ e = _
  rw [bnd_app]
  first | rfl | (congr 1; funext d e1; exact bnd_app)
@[simp] theorem tupM_app {ms : List (M R)} {e : Env} : tupM ms e = Res.bind (fargs ms e) fun ds => if ds.length < 100000 then ret (.d (.tup ds)) else failM := bnd_app
@[simp] theorem lstM_app {ms : List (M R)} {e : Env} : lstM ms e = Res.bind (fargs ms e) fun ds => if ds.length < 100000 then ret (.lst ds) else failM := bnd_app
/-! ### tests -/
@[simp] theorem tsM_app {m : M R} {e : Env} : tsM m e = Res.bind (m e) blM := bnd_app
@[simp] theorem blM_b {b : Bool} {e : Env} : blM (.d (.bl b)) e = .ok b e := nr rfl
@[simp] theorem ifM_app {α : Type} {c : M Bool} {a b : M α} {e : Env} : ifM c a b e = Res.bind (c e) fun c e => if c = true then a e else b e := by
  unfold ifM; rw [bnd_app]; first | rfl | (congr 1; funext c e; cases c <;> rfl)
@[simp] theorem andM_app {a b : M Bool} {e : Env} : andM a b e = Res.bind (a e) fun c e => if c = true then b e else .ok false e := by
  unfold andM; rw [bnd_app]; first | rfl | (congr 1; funext c e; cases c <;> rfl)
@[simp] theorem orM_app {a b : M Bool} {e : Env} : orM a b e = Res.bind (a e) fun c e => if c = true then .ok true e else b e := by
  unfold orM; rw [bnd_app]; first | rfl | (congr 1; funext c e; cases c <;> rfl)
@[simp] theorem notM_app {a : M Bool} {e : Env} : notM a e = Res.bind (a e) fun c => ret (!c) := bnd_app
@[simp] theorem andV_app {a b : M R} {e : Env} : andV a b e = Res.bind (tsM a e) fun c e => if c = true then b e else .ok (.d (.bl false)) e := by
  unfold andV; rw [bnd_app]; first | rfl | (congr 1; funext c e; cases c <;> rfl)
@[simp] theorem orV_app {a b : M R} {e : Env} : orV a b e = Res.bind (tsM a e) fun c e => if c = true then .ok (.d (.bl true)) e else b e := by
  unfold orV; rw [bnd_app]; first | rfl | (congr 1; funext c e; cases c <;> rfl)
@[simp] theorem notV_app {a : M R} {e : Env} : notV a e = Res.bind (tsM a e) fun c => ret (.d (.bl (!c))) := bnd_app
/-! ### statements -/
def seqK (b : M Fl) : Fl → M Fl
  | .nx => b
  | f => ret f
@[simp] theorem seqM_app {a b : M Fl} {e : Env} : seqM a b e = Res.bind (a e) (seqK b) := by
  unfold seqM; rw [bnd_app]; first | rfl | (congr 1; funext f; cases f <;> rfl)
@[simp] theorem seqK_nx {b : M Fl} {e : Env} : seqK b .nx e = b e := nr rfl
@[simp] theorem seqK_bk {b : M Fl} {e : Env} : seqK b .bk e = .ok .bk e := nr rfl
@[simp] theorem seqK_ct {b : M Fl} {e : Env} : seqK b .ct e = .ok .ct e := nr rfl
@[simp] theorem seqK_rt {b : M Fl} {o : O} {e : Env} : seqK b (.rt o) e = .ok (.rt o) e := nr rfl
def asgK (i : Nat) (r : R) : M Fl := fun e => Res.bind (setR i r e) fun _ => ret .nx
@[simp] theorem asgM_app {i : Nat} {m : M R} {e : Env} : asgM i m e = Res.bind (m e) (asgK i) := by
  unfold asgM; rw [bnd_app]; first | rfl | (congr 1; funext r e; exact bnd_app)
@[simp] theorem asgK_d {i : Nat} {x : D} {e : Env} : asgK i (.d x) e = .ok .nx (e.set i (some (.f (.fz x)))) := nr rfl
@[simp] theorem asgK_lst {i : Nat} {x : List D} {e : Env} : asgK i (.lst x) e = .ok .nx (e.set i (some (.f (.lst x)))) := nr rfl
@[simp] theorem asgK_dic {i : Nat} {x} {e : Env} : asgK i (.dic x) e = .ok .nx (e.set i (some (.f (.dic x)))) := nr rfl
@[simp] theorem asgK_ins {i c : Nat} {x : List Fd} {e : Env} : asgK i (.ins c x) e = .ok .nx (e.set i (some (.ins c x))) := nr rfl
theorem asgK_at {i j : Nat} {e : Env} : asgK i (.at j) e = Res.bind (frzR (.at j) e) fun d e => .ok .nx (e.set i (some (.f (.fz d)))) := by
  unfold asgK setR; simp only [bnd_app]; cases frzR (.at j) e <;> rfl
theorem asgK_fld {i j k : Nat} {e : Env} : asgK i (.fld j k) e = Res.bind (frzR (.fld j k) e) fun d e => .ok .nx (e.set i (some (.f (.fz d)))) := by
  unfold asgK setR; simp only [bnd_app]; cases frzR (.fld j k) e <;> rfl
def retK (r : R) : M Fl := match r with
  | .lst xs => ret (.rt (.f (.lst xs)))
  | .dic xs => ret (.rt (.f (.dic xs)))
  | .ins c fs => ret (.rt (.ins c fs))
  | r => fun e => Res.bind (frzR r e) fun d => ret (.rt (.f (.fz d)))
@[simp] theorem retM_app {m : M R} {e : Env} : retM m e = Res.bind (m e) retK := by
  unfold retM; rw [bnd_app]; first | rfl | (congr 1; funext r; cases r <;> first | rfl | (funext e; exact bnd_app))
@[simp] theorem retK_d {x : D} {e : Env} : retK (.d x) e = .ok (.rt (.f (.fz x))) e := nr rfl
@[simp] theorem retK_lst {x : List D} {e : Env} : retK (.lst x) e = .ok (.rt (.f (.lst x))) e := nr rfl
@[simp] theorem retK_dic {x} {e : Env} : retK (.dic x) e = .ok (.rt (.f (.dic x))) e := nr rfl
@[simp] theorem retK_ins {c : Nat} {x : List Fd} {e : Env} : retK (.ins c x) e = .ok (.rt (.ins c x)) e := nr rfl
theorem retK_at {j : Nat} {e : Env} : retK (.at j) e = Res.bind (frzR (.at j) e) fun d => ret (.rt (.f (.fz d))) := rfl
theorem retK_fld {j k : Nat} {e : Env} : retK (.fld j k) e = Res.bind (frzR (.fld j k) e) fun d => ret (.rt (.f (.fz d))) := rfl
@[simp] theorem asgTM_app {m : M R} {t : Tg} {e : Env} : asgTM m t e = Res.bind (frz m e) fun d e => match t d e with | some e' => .ok .nx e' | none => .fail := bnd_app
@[simp] theorem stoM_app {mo mi mv : M R} {e : Env} : stoM mo mi mv e = Res.bind (frz mv e) fun d e => Res.bind (opd mo e) fun o e => Res.bind (frz mi e) fun k env => match getC env o with
  | none => .fail
  | some x => match gPut x k d with
    | none => .fail
    | some x' => .ok .nx (putC env o x') := by
  unfold stoM
  rw [bnd_app]
  first
    | rfl
    | (congr 1; funext d e; rw [bnd_app]; first | rfl | (congr 1; funext o e; rw [bnd_app]))
@[simp] theorem opd_app {m : M R} {e : Env} : opd m e = Res.bind (m e) fun r => lift (toOp r) := bnd_app
@[simp] theorem mutM_app {g : Fd → List D → Option (Fd × D)} {m : M R} {ms : List (M R)} {e : Env} : mutM g m ms e = Res.bind (opd m e) fun o e => if isL (getC e o) = true then Res.bind (fargs ms e) (fun ds env => match getC env o with
  | none => .fail
  | some x => match g x ds with
    | none => .fail
    | some (x', d) => .ok (.d d) (putC env o x')) else .fail := by
  unfold mutM
  rw [bnd_app]; congr 1; funext o e
  rw [bnd_app]
  unfold chk
  by_cases h : isL (getC e o) = true
  · simp only [h, if_true, rb_ok, bnd_app] <;> rfl
  · simp only [h, if_false, rb_fail] <;> rfl
/-! ### calls -/
@[simp] theorem callM_app {f : Fn} {ms : List (Bool × M R)} {e : Env} : callM f ms e = Res.bind (cargs ms e) (runF f) := bnd_app
@[simp] theorem cargs_nil {e : Env} : cargs [] e = .ok [] e := nr rfl
@[simp] theorem cargs_f {m : M R} {r : List (Bool × M R)} {e : Env} : cargs ((false, m) :: r) e = Res.bind (frz m e) fun d e => Res.bind (cargs r e) fun as => ret (.d d :: as) := by
  show bnd (ca1 false m) _ e = _
  unfold ca1
  rw [if_neg (by simp), bnd_app, bnd_app]
  cases frz m e with
  | ok d e1 => simp only [rb_ok, ret_app, bnd_app]
  | _ => rfl
def caK (r : List (Bool × M R)) (x : R) : M (List CA) := match x with
  | .at i => fun e => Res.bind (cargs r e) fun as => ret (.at i :: as)
  | _ => failM
@[simp] theorem cargs_t {m : M R} {r : List (Bool × M R)} {e : Env} : cargs ((true, m) :: r) e = Res.bind (m e) (caK r) := by
  show bnd (ca1 true m) _ e = _
  unfold ca1
  rw [if_pos rfl, bnd_app, bnd_app]
  cases m e with
  | ok x e1 =>
    simp only [rb_ok, caK]
    cases x <;> simp only [ret_app, rb_ok, bnd_app, fail_app, rb_fail]
  | _ => rfl
@[simp] theorem caK_at {r : List (Bool × M R)} {i : Nat} {e : Env} : caK r (.at i) e = Res.bind (cargs r e) fun as => ret (.at i :: as) := nr rfl
def resF (as : List CA) (e : Env) : FRes → Res R
  | .fail => .fail
  | .ret o outs => .ok (ofO o) (putO e as outs)
  | .exc x outs => .exc x (putO e as outs)
theorem runF_app {f : Fn} {as : List CA} {e : Env} : runF f as e = match osOf e as with | none => .fail | some os => resF as e (f os) := by
  unfold runF resF
  cases osOf e as with
  | none => rfl
  | some os => simp only <;> (cases f os <;> rfl)
@[simp] theorem runF_ok {f : Fn} {as : List CA} {e : Env} {os : List O} (h : osOf e as = some os) : runF f as e = resF as e (f os) := by rw [runF_app, h]
@[simp] theorem resF_ret {as : List CA} {e : Env} {o : O} {outs : List O} : resF as e (.ret o outs) = .ok (ofO o) (putO e as outs) := nr rfl
@[simp] theorem resF_exc {as : List CA} {e : Env} {x : Exn} {outs : List O} : resF as e (.exc x outs) = .exc x (putO e as outs) := nr rfl
@[simp] theorem resF_fail {as : List CA} {e : Env} : resF as e .fail = .fail := nr rfl
@[simp] theorem osOf_nil {e : Env} : osOf e [] = some [] := nr rfl
@[simp] theorem osOf_d {e : Env} {x : D} {r : List CA} : osOf e (.d x :: r) = (osOf e r).map fun os => .f (.fz x) :: os := nr rfl
theorem osOf_at {e : Env} {i : Nat} {r : List CA} : osOf e (.at i :: r) = match e[i]? with
    | some (some (.f (.fz _))) => none
    | some (some o) => if (r.all fun a => match a with | .d _ => true | _ => false) = true then (osOf e r).map fun os => o :: os else none
    | _ => none := rfl
@[simp] theorem putO_d {e : Env} {x : D} {o : O} {r : List CA} {os : List O} : putO e (.d x :: r) (o :: os) = putO e r os := nr rfl
@[simp] theorem putO_at {e : Env} {i : Nat} {o : O} {r : List CA} {os : List O} : putO e (.at i :: r) (o :: os) = e.set i (some o) := nr rfl
@[simp] theorem putO_nil {e : Env} {os : List O} : putO e [] os = e := by cases os <;> rfl
@[simp] theorem ofO_fz {d : D} : ofO (.f (.fz d)) = .d d := nr rfl
@[simp] theorem ofO_lst {d : List D} : ofO (.f (.lst d)) = .lst d := nr rfl
@[simp] theorem ofO_dic {d} : ofO (.f (.dic d)) = .dic d := nr rfl
@[simp] theorem ofO_ins {c : Nat} {fs : List Fd} : ofO (.ins c fs) = .ins c fs := nr rfl
/-! ### a def's body -/
def bodyK (P : List Nat) (os : List O) : Res Fl → FRes
  | .ok (.rt o) e => match outsOf P e 0 os with
    | some outs => .ret o outs
    | none => .fail
  | .ok .nx e => match outsOf P e 0 os with
    | some outs => .ret (.f (.fz .non)) outs
    | none => .fail
  | .exc x e => match outsOf P e 0 os with
    | some outs => .exc x outs
    | none => .fail
  | _ => .fail
theorem bodyF_app {n : Nat} {P : List Nat} {m : M Fl} {os : List O} : bodyF n P m os = bodyK P os (m (entry n os)) := by
  unfold bodyF bodyK
  cases m (entry n os) with
  | ok f e => cases f <;> rfl
  | exc x e => rfl
  | fail => rfl
@[simp] theorem bodyK_rt {P : List Nat} {os outs : List O} {o : O} {e : Env} (h : outsOf P e 0 os = some outs) : bodyK P os (.ok (.rt o) e) = .ret o outs := by simp [bodyK, h]
@[simp] theorem bodyK_nx {P : List Nat} {os outs : List O} {e : Env} (h : outsOf P e 0 os = some outs) : bodyK P os (.ok .nx e) = .ret (.f (.fz .non)) outs := by simp [bodyK, h]
@[simp] theorem bodyK_exc {P : List Nat} {os outs : List O} {x : Exn} {e : Env} (h : outsOf P e 0 os = some outs) : bodyK P os (.exc x e) = .exc x outs := by simp [bodyK, h]
@[simp] theorem bodyK_ite {P : List Nat} {os : List O} {c : Prop} [Decidable c] {a b : Res Fl} : bodyK P os (if c then a else b) = if c then bodyK P os a else bodyK P os b := by split <;> rfl
@[simp] theorem outsOf_nil {P : List Nat} {e : Env} {k : Nat} : outsOf P e k [] = some [] := nr rfl
@[simp] theorem outsOf_fz {P : List Nat} {e : Env} {k : Nat} {d : D} {r : List O} : outsOf P e k (.f (.fz d) :: r) = (outsOf P e (k + 1) r).map fun os => .f (.fz d) :: os := nr rfl
@[simp] theorem outsOf_lst {P : List Nat} {e : Env} {k : Nat} {d : List D} {r : List O} : outsOf P e k (.f (.lst d) :: r) = if k ∈ P then match e[k]? with
        | some (some o') => (outsOf P e (k + 1) r).map fun os => o' :: os
        | _ => none
      else none := nr rfl
@[simp] theorem outsOf_dic {P : List Nat} {e : Env} {k : Nat} {d} {r : List O} : outsOf P e k (.f (.dic d) :: r) = if k ∈ P then match e[k]? with
        | some (some o') => (outsOf P e (k + 1) r).map fun os => o' :: os
        | _ => none
      else none := nr rfl
@[simp] theorem outsOf_ins {P : List Nat} {e : Env} {k c : Nat} {d} {r : List O} : outsOf P e k (.ins c d :: r) = if k ∈ P then match e[k]? with
        | some (some o') => (outsOf P e (k + 1) r).map fun os => o' :: os
        | _ => none
      else none := nr rfl
/-! ### what operations give -/
section
variable {i j : Int} {s t : List Nat} {xs ys : List D}
@[simp] theorem gAdd_ii : gAdd [.int i, .int j] = some (.d (.int (i + j))) := nr rfl
@[simp] theorem gAdd_ss : gAdd [.str s, .str t] = if s.length + t.length < 100000 then some (.d (.str (s ++ t))) else none := nr rfl
@[simp] theorem gAdd_ll : gAdd [.lst xs, .lst ys] = if xs.length + ys.length < 100000 then some (.lst (xs ++ ys)) else none := nr rfl
@[simp] theorem gSub_ii : gSub [.int i, .int j] = some (.d (.int (i - j))) := by simp [gSub, gI2]
@[simp] theorem gFdiv_ii : gFdiv [.int i, .int j] = if 0 < j ∧ j < 1073741824 then some (.d (.int (i / j))) else none := by simp [gFdiv, gI2]
@[simp] theorem gMod_ii : gMod [.int i, .int j] = if 0 < j then some (.d (.int (i % j))) else none := by simp [gMod, gI2]
@[simp] theorem gMul_ii : gMul [.int i, .int j] = if i.natAbs < 2 ^ 64 ∨ j.natAbs < 2 ^ 64 then some (.d (.int (i * j))) else none := by simp [gMul]
@[simp] theorem gPow_ii : gPow [.int i, .int j] = if (0 ≤ j ∧ j ≤ 1000000) ∧ i.natAbs < 2 ^ 64 then some (.d (.int (i ^ j.toNat))) else none := by simp [gPow, gI2]
@[simp] theorem gLt_ii : gLt [.int i, .int j] = some (.d (.bl (decide (i < j)))) := by simp [gLt, gI2]
@[simp] theorem gLe_ii : gLe [.int i, .int j] = some (.d (.bl (decide (i ≤ j)))) := by simp [gLe, gI2]
@[simp] theorem gGt_ii : gGt [.int i, .int j] = some (.d (.bl (decide (j < i)))) := by simp [gGt, gI2]
@[simp] theorem gGe_ii : gGe [.int i, .int j] = some (.d (.bl (decide (j ≤ i)))) := by simp [gGe, gI2]
@[simp] theorem gNeg_i : gNeg [.int i] = some (.d (.int (-i))) := nr rfl
@[simp] theorem gEq_ii : gEq [.int i, .int j] = some (.d (.bl (decide (i = j)))) := by
  simp only [gEq, D.flat2, Bool.true_or, if_true, D.eqv]
  congr 3
@[simp] theorem gEq_ss : gEq [.str s, .str t] = some (.d (.bl (decide (s = t)))) := by
  simp only [gEq, D.flat2, Bool.true_or, if_true, D.eqv]
  by_cases h : s = t <;> simp [h]
@[simp] theorem gNe_ii : gNe [.int i, .int j] = some (.d (.bl (decide (i ≠ j)))) := by
  simp only [gNe, D.flat2, Bool.true_or, if_true, D.eqv]
  by_cases h : i = j <;> simp [h]
@[simp] theorem gNe_ss : gNe [.str s, .str t] = some (.d (.bl (decide (s ≠ t)))) := by
  simp only [gNe, D.flat2, Bool.true_or, if_true, D.eqv]
  by_cases h : s = t <;> simp [h]
@[simp] theorem gEq_bb {a b : Bool} : gEq [.bl a, .bl b] = some (.d (.bl (a == b))) := by simp [gEq, D.flat2, D.eqv]
@[simp] theorem gLen_s : gLen [.str s] = if s.length < 100000 then some (.d (.int s.length)) else none := nr rfl
@[simp] theorem gLen_l : gLen [.lst xs] = some (.d (.int xs.length)) := nr rfl
@[simp] theorem gLen_t : gLen [.tup xs] = some (.d (.int xs.length)) := nr rfl
@[simp] theorem gAbs_i : gAbs [.int i] = some (.d (.int (if i < 0 then -i else i))) := nr rfl
@[simp] theorem gMax2_ii : gMax2 [.int i, .int j] = some (.d (.int (if j > i then j else i))) := nr rfl
@[simp] theorem gMin2_ii : gMin2 [.int i, .int j] = some (.d (.int (if j < i then j else i))) := nr rfl
@[simp] theorem gInt_i : gInt [.int i] = some (.d (.int i)) := nr rfl
@[simp] theorem gInt_b {b : Bool} : gInt [.bl b] = some (.d (.int (if b then 1 else 0))) := nr rfl
@[simp] theorem gList_s {ns : List Int} : gList [.scr ns] = some (.lst (ns.map .int)) := nr rfl
@[simp] theorem gList_l : gList [.lst xs] = some (.lst xs) := nr rfl
@[simp] theorem gList_t : gList [.tup xs] = some (.lst xs) := nr rfl
@[simp] theorem gIx_s : gIx [.str s, .int i] = if s.length < 100000 then (atI s i).map (fun c => .d (.str [c])) else none := nr rfl
@[simp] theorem gIx_l : gIx [.lst xs, .int i] = (atI xs i).map (fun d => .d d) := nr rfl
@[simp] theorem gIx_t : gIx [.tup xs, .int i] = (atI xs i).map (fun d => .d d) := nr rfl
@[simp] theorem gIsN_n : gIsN [.non, .non] = some (.d (.bl true)) := nr rfl
@[simp] theorem gIsN_i : gIsN [.int i, .non] = some (.d (.bl false)) := nr rfl
@[simp] theorem gIsN_b {b : Bool} : gIsN [.bl b, .non] = some (.d (.bl false)) := nr rfl
@[simp] theorem gIsN_s : gIsN [.str s, .non] = some (.d (.bl false)) := nr rfl
@[simp] theorem gIsN_l : gIsN [.lst xs, .non] = some (.d (.bl false)) := nr rfl
@[simp] theorem gIsN_t : gIsN [.tup xs, .non] = some (.d (.bl false)) := nr rfl
@[simp] theorem gNotN_n : gNotN [.non, .non] = some (.d (.bl false)) := nr rfl
@[simp] theorem gNotN_i : gNotN [.int i, .non] = some (.d (.bl true)) := nr rfl
@[simp] theorem gNotN_b {b : Bool} : gNotN [.bl b, .non] = some (.d (.bl true)) := nr rfl
@[simp] theorem gNotN_s : gNotN [.str s, .non] = some (.d (.bl true)) := nr rfl
@[simp] theorem gNotN_l : gNotN [.lst xs, .non] = some (.d (.bl true)) := nr rfl
@[simp] theorem gNotN_t : gNotN [.tup xs, .non] = some (.d (.bl true)) := nr rfl
/-- an index that is there -/
@[simp] theorem atI_nat {α : Type} {xs : List α} {n : Nat} : atI xs (n : Int) = xs[n]? := by
  unfold atI ixN
  by_cases h : n < xs.length
  · simp [h]
  · have : xs[n]? = none := List.getElem?_eq_none (by omega)
    rw [this]
    simp [h]
@[simp] theorem atI_0 {α : Type} {xs : List α} : atI xs 0 = xs[0]? := atI_nat (n := 0)
@[simp] theorem atI_1 {α : Type} {xs : List α} : atI xs 1 = xs[1]? := atI_nat (n := 1)
@[simp] theorem atI_2 {α : Type} {xs : List α} : atI xs 2 = xs[2]? := atI_nat (n := 2)
@[simp] theorem atI_3 {α : Type} {xs : List α} : atI xs 3 = xs[3]? := atI_nat (n := 3)
@[simp] theorem ixN_nat {n k : Nat} (h : k < n) : ixN n (k : Int) = some k := by unfold ixN; simp [h]
end
end DV

set_option Elab.async false
set_option linter.all false
set_option maxRecDepth 100000
set_option maxHeartbeats 1000000
/-! DV24: loops and comprehensions by invariants. -/
namespace DV
open L2
/-- what a run ends in -/
def wpR {α : Type} (r : Res α) (Q : α → Env → Prop) (X : Exn → Env → Prop) : Prop := match r with
  | .fail => False
  | .ok a e => Q a e
  | .exc x e => X x e
section
variable {α β : Type} {Q : α → Env → Prop} {X : Exn → Env → Prop}
@[simp] theorem wpR_ok {a : α} {e : Env} : wpR (.ok a e) Q X = Q a e := nr rfl
@[simp] theorem wpR_exc {x : Exn} {e : Env} : wpR (.exc x e : Res α) Q X = X x e := nr rfl
@[simp] theorem wpR_fail : wpR (.fail : Res α) Q X = False := nr rfl
theorem wpR_bind {r : Res β} {k : β → M α} : wpR (Res.bind r k) Q X = wpR r (fun b e => wpR (k b e) Q X) X := by cases r <;> rfl
theorem wpR_mono {r : Res α} {Q' : α → Env → Prop} {X' : Exn → Env → Prop} (h : wpR r Q X) (hq : ∀ a e, Q a e → Q' a e) (hx : ∀ x e, X x e → X' x e) : wpR r Q' X' := by
  cases r with
  | ok a e => exact hq a e h
  | exc x e => exact hx x e h
  | fail => exact h
theorem wpR_ite {c : Prop} [Decidable c] {a b : Res α} (h1 : c → wpR a Q X) (h2 : ¬ c → wpR b Q X) : wpR (if c then a else b) Q X := by
  by_cases h : c
  · rw [if_pos h]; exact h1 h
  · rw [if_neg h]; exact h2 h
end
/-- what a turn's end asks -/
def turnQ (I : Env → Prop) (Q : Fl → Env → Prop) : Fl → Env → Prop
  | .nx, e => I e
  | .ct, e => I e
  | .bk, e => Q .nx e
  | .rt o, e => Q (.rt o) e
theorem loopK_wp {I : Env → Prop} {Q : Fl → Env → Prop} {X : Exn → Env → Prop} {r : Res Fl} {k : M Fl} (h : wpR r (turnQ I Q) X) (hk : ∀ e, I e → wpR (k e) Q X) : wpR (Res.bind r (loopK k)) Q X := by
  cases r with
  | fail => exact h
  | exc x e => exact h
  | ok f e =>
    cases f with
    | nx => exact hk e h
    | ct => exact hk e h
    | bk => exact h
    | rt o => exact h
theorem forM_wp {t : Tg} {b : M Fl} {Q : Fl → Env → Prop} {X : Exn → Env → Prop} (I : Nat → Env → Prop) : ∀ (ds : List D) (k : Nat) (env : Env),
    (∀ j d e, ds[j]? = some d → I (k + j) e → ∃ e1, t d e = some e1 ∧ wpR (b e1) (turnQ (I (k + j + 1)) Q) X) → (∀ e, I (k + ds.length) e → Q .nx e) → I k env → wpR (forM t b ds env) Q X
  | [], k, env, _, hq, h => hq env h
  | d :: r, k, env, hs, hq, h => by
    obtain ⟨e1, ht, hb⟩ := hs 0 d env rfl h
    unfold forM
    rw [ht]
    show wpR (bnd b (loopK (forM t b r)) e1) Q X
    rw [bnd_app]
    refine loopK_wp hb fun e he => forM_wp I r (k + 1) e (fun j d' e' hj hi => ?_) (fun e' he' => ?_) he
    · have := hs (j + 1) d' e' (by simpa using hj) (by rw [← Nat.add_assoc, Nat.add_right_comm]; exact hi)
      rw [show k + (j + 1) = k + 1 + j by omega] at this
      exact this
    · refine hq e' ?_
      rw [List.length_cons, show k + (r.length + 1) = k + 1 + r.length by omega]
      exact he'
theorem for_wp {t : Tg} {b : M Fl} {Q : Fl → Env → Prop} {X : Exn → Env → Prop} (I : Nat → Env → Prop) {ds : List D} {env : Env} (h : I 0 env)
    (hs : ∀ j d e, ds[j]? = some d → I j e → ∃ e1, t d e = some e1 ∧ wpR (b e1) (turnQ (I (j + 1)) Q) X) (hq : ∀ e, I ds.length e → Q .nx e) : wpR (forM t b ds env) Q X :=
  forM_wp I ds 0 env (fun j d e hj hi => by rw [Nat.zero_add] at hi ⊢; exact hs j d e hj hi) (fun e he => hq e (by rw [Nat.zero_add] at he; exact he)) h
theorem while_wp {c : M Bool} {b : M Fl} {Q : Fl → Env → Prop} {X : Exn → Env → Prop} (I : Nat → Env → Prop) (hs : ∀ n e, I n e → wpR (c e) (fun t e1 => if t = true then wpR (b e1) (turnQ (fun e2 => ∃ m, m < n ∧ I m e2) Q) X else Q .nx e1) X) :
    ∀ (fuel n : Nat) (env : Env), n < fuel → I n env → wpR (whileM c b fuel env) Q X
  | 0, n, env, h, _ => absurd h (Nat.not_lt_zero _)
  | fuel + 1, n, env, h, hi => by
    unfold whileM
    rw [bnd_app, wpR_bind]
    refine wpR_mono (hs n env hi) (fun t e1 ht => ?_) (fun x e hx => hx)
    cases t with
    | false => rw [if_neg (by simp)] at ht ⊢; exact ht
    | true =>
      rw [if_pos rfl] at ht ⊢
      rw [bnd_app]
      refine loopK_wp ht fun e2 he2 => ?_
      obtain ⟨m, hm, hi2⟩ := he2
      exact while_wp I hs fuel m e2 (by omega) hi2
/-! ### comprehensions -/
theorem lcM_wp {t : Tg} {c : M Bool} {el : M R} {vs : List Nat} {X : Exn → Env → Prop} {Q : List D → Env → Prop} (I : Nat → List D → Env → Prop) : ∀ (ds : List D) (k : Nat) (acc : List D) (env : Env),
    (∀ j d a e, ds[j]? = some d → I (k + j) a e → ∃ e1, t d e = some e1 ∧ wpR (c e1) (fun b e2 => if b = true then wpR (frz el e2) (fun x e3 => a.length < 100000 ∧ I (k + j + 1) (a ++ [x]) (wipeE e3 vs)) (fun _ _ => False) else I (k + j + 1) a (wipeE e2 vs)) (fun _ _ => False)) →
    (∀ a e, I (k + ds.length) a e → Q a e) → I k acc env → wpR (lcM t c el vs ds acc env) Q X
  | [], k, acc, env, _, hq, h => hq acc env h
  | d :: r, k, acc, env, hs, hq, h => by
    obtain ⟨e1, ht, hb⟩ := hs 0 d acc env rfl h
    unfold lcM
    rw [ht]
    simp only
    rw [bnd_app]
    have rest : ∀ a e, I (k + 0 + 1) a e → wpR (lcM t c el vs r a e) Q X := fun a e he => lcM_wp I r (k + 1) a e (fun j d' a' e' hj hi => by
      have := hs (j + 1) d' a' e' (by simpa using hj) (by rw [← Nat.add_assoc, Nat.add_right_comm]; exact hi)
      rw [show k + (j + 1) = k + 1 + j by omega] at this
      exact this) (fun a' e' he' => hq a' e' (by rw [List.length_cons, show k + (r.length + 1) = k + 1 + r.length by omega]; exact he')) he
    cases hc : c e1 with
    | fail => rw [hc] at hb; exact hb.elim
    | exc x e => rw [hc] at hb; exact hb.elim
    | ok b e2 =>
      rw [hc] at hb
      simp only [wpR_ok] at hb
      rw [rb_ok]
      cases b with
      | false =>
        rw [if_neg (by simp)] at hb ⊢
        exact rest _ _ hb
      | true =>
        rw [if_pos rfl] at hb ⊢
        rw [bnd_app]
        cases he : frz el e2 with
        | fail => rw [he] at hb; exact hb.elim
        | exc x e => rw [he] at hb; exact hb.elim
        | ok x e3 =>
          rw [he] at hb
          rw [rb_ok]
          have hb : acc.length < 100000 ∧ I (k + 0 + 1) (acc ++ [x]) (wipeE e3 vs) := hb
          rw [if_pos hb.1]
          exact rest _ _ hb.2
theorem compM_wp {t : Tg} {c : M Bool} {el : M R} {vs : List Nat} {mi : M (List D)} {X : Exn → Env → Prop} {Q : R → Env → Prop} {env env1 : Env} {ds : List D} (hm : mi env = .ok ds env1) (hp : plainAt env1 vs = true) (I : Nat → List D → Env → Prop) (h0 : I 0 [] (wipeE env1 vs))
    (hs : ∀ j d a e, ds[j]? = some d → I j a e → ∃ e1, t d e = some e1 ∧ wpR (c e1) (fun b e2 => if b = true then wpR (frz el e2) (fun x e3 => a.length < 100000 ∧ I (j + 1) (a ++ [x]) (wipeE e3 vs)) (fun _ _ => False) else I (j + 1) a (wipeE e2 vs)) (fun _ _ => False))
    (hq : ∀ a e, I ds.length a e → Q (.lst a) (backE env1 e vs)) : wpR (compM vs mi t c el env) Q X := by
  unfold compM
  rw [bnd_app, hm, rb_ok, if_pos hp]
  have := lcM_wp (t := t) (c := c) (el := el) (vs := vs) (X := fun _ _ => False) (Q := fun a e => Q (.lst a) (backE env1 e vs)) I ds 0 [] (wipeE env1 vs) (fun j d a e hj hi => by rw [Nat.zero_add] at hi ⊢; exact hs j d a e hj hi) (fun a e he => hq a e (by rw [Nat.zero_add] at he; exact he)) h0
  cases hl : lcM t c el vs ds [] (wipeE env1 vs) with
  | fail => rw [hl] at this; exact this.elim
  | exc x e => rw [hl] at this; exact this.elim
  | ok a e => rw [hl] at this; exact this
/-- a pure one: nothing but the slot of the target changes -/
theorem comp_pure {i : Nat} {el : M R} {f : D → D} {mi : M (List D)} {env env1 : Env} {ds : List D} (hm : mi env = .ok ds env1) (hp : plainAt env1 [i] = true) (hl : ds.length ≤ 100000)
    (he : ∀ d ∈ ds, frz el (env1.set i (some (.f (.fz d)))) = .ok (f d) (env1.set i (some (.f (.fz d))))) : compM [i] mi (stD i) (ret true) el env = .ok (.lst (ds.map f)) env1 := by
  have hset : ∀ x y : Option O, (env1.set i x).set i y = env1.set i y := fun x y => List.set_set ..
  have h := compM_wp (X := fun _ _ => False) (Q := fun r e => r = .lst (ds.map f) ∧ e = env1) (t := stD i) (c := ret true) (el := el) (vs := [i]) hm hp (fun j a e => a = (ds.take j).map f ∧ e = env1.set i none)
    ⟨by simp, rfl⟩ (fun j d a e hj ⟨ha, he1⟩ => by
      subst ha; subst he1
      have hd : d ∈ ds := List.mem_of_getElem? hj
      have hjl : j < ds.length := (List.getElem?_eq_some_iff.mp hj).1
      refine ⟨_, rfl, ?_⟩
      simp only [ret_app, wpR_ok, if_true, hset]
      rw [he d hd]
      simp only [wpR_ok, wipeE, hset]
      refine ⟨by rw [List.length_map, List.length_take]; omega, ?_, trivial⟩
      rw [← List.map_singleton, ← List.map_append]
      congr 1
      rw [List.take_succ, hj]
      rfl) (fun a e ⟨ha, he1⟩ => by
      subst ha; subst he1
      rw [List.take_length]
      refine ⟨rfl, ?_⟩
      unfold backE
      simp only [backE, hset]
      cases h : env1[i]? with
      | none =>
        have : env1.length ≤ i := List.getElem?_eq_none_iff.mp h
        rw [List.set_eq_of_length_le this]
      | some o =>
        obtain ⟨hi, ho⟩ := List.getElem?_eq_some_iff.mp h
        rw [← ho]
        simp)
  cases hc : compM [i] mi (stD i) (ret true) el env with
  | fail => rw [hc] at h; exact h.elim
  | exc x e => rw [hc] at h; exact h.elim
  | ok r e =>
    rw [hc] at h
    obtain ⟨rfl, rfl⟩ : r = _ ∧ e = _ := h
    rfl
@[simp] theorem itR1_app {m : M R} {e : Env} : itR1 m e = Res.bind (args [m] e) fun os env => match vws env os with
  | some [.int j] => if small62 j = true then .ok (rgV 0 j.toNat) env else .fail
  | _ => .fail := by
  unfold itR1
  rw [bnd_app]
  cases args [m] e with
  | ok os e1 =>
    simp only [rb_ok, bnd_app, seen]
    cases vws e1 os with
    | none => rfl
    | some ds =>
      simp only [rb_ok]
      match ds with
      | [] => rfl
      | [.int j] => simp only; split <;> rfl
      | [.non] => rfl
      | [.bl _] => rfl
      | [.str _] => rfl
      | [.lst _] => rfl
      | [.tup _] => rfl
      | [.dic _] => rfl
      | [.wtup _] => rfl
      | [.scr _] => rfl
      | .int _ :: _ :: _ => rfl
      | .non :: _ :: _ => rfl
      | .bl _ :: _ :: _ => rfl
      | .str _ :: _ :: _ => rfl
      | .lst _ :: _ :: _ => rfl
      | .tup _ :: _ :: _ => rfl
      | .dic _ :: _ :: _ => rfl
      | .wtup _ :: _ :: _ => rfl
      | .scr _ :: _ :: _ => rfl
  | _ => rfl
@[simp] theorem itV_app {m : M R} {e : Env} : itV m e = Res.bind (frz m e) fun d e => match d with
  | .lst xs => .ok xs e
  | .tup xs => .ok xs e
  | .wtup xs => .ok xs e
  | .str s => .ok (s.map fun c => .str [c]) e
  | _ => .fail := by
  unfold itV
  rw [bnd_app]
  cases frz m e with
  | ok d e1 => cases d <;> rfl
  | _ => rfl
@[simp] theorem itEn_app {m : M R} {e : Env} : itEn m e = Res.bind (frz m e) fun d e => match d with
  | .lst xs => if xs.length < 100000 then .ok (enumD 0 xs) e else .fail
  | _ => .fail := by
  unfold itEn
  rw [bnd_app]
  cases frz m e with
  | ok d e1 =>
    cases d with
    | lst xs => simp only [rb_ok]; split <;> rfl
    | _ => rfl
  | _ => rfl
theorem small_nat {n : Nat} (h : n < 100000) : small62 (n : Int) = true := by
  unfold small62
  simp
  omega
@[simp] theorem sl11_app {ma mb mc : M R} {e : Env} : sl11M ma mb mc e = Res.bind (opd ma e) fun o1 e => Res.bind (opd mb e) fun o2 e => if isIntO o2 e = true then Res.bind (opd mc e) (fun o3 e => match vws e [o1, o2, o3] with
  | some ds => match gSl11 ds with
    | some r => .ok r e
    | none => .fail
  | none => .fail) else .fail := by
  unfold sl11M
  rw [bnd_app]
  cases opd ma e with
  | ok o1 e1 =>
    simp only [rb_ok, bnd_app]
    cases opd mb e1 with
    | ok o2 e2 =>
      simp only [rb_ok, bnd_app, chk]
      by_cases h : isIntO o2 e2 = true
      · simp only [h, if_true, rb_ok, bnd_app]
        cases opd mc e2 with
        | ok o3 e3 =>
          simp only [rb_ok, bnd_app, seen]
          cases vws e3 [o1, o2, o3] with
          | none => rfl
          | some ds => simp only [rb_ok]; cases gSl11 ds <;> rfl
        | _ => rfl
      · simp only [h]
        rfl
    | _ => rfl
  | _ => rfl
theorem cut_nat {α : Type} {xs : List α} {a b : Nat} (h : a ≤ b) (hb : b ≤ xs.length) : cutL xs (some (a : Int)) (some (b : Int)) = (xs.drop a).take (b - a) := by
  unfold cutL
  rw [HT.sIx_nat, HT.sIx_nat, Nat.min_eq_left hb, Nat.min_eq_left (Nat.le_trans h hb)]
theorem cut_to {α : Type} {xs : List α} {b : Nat} : cutL xs none (some (b : Int)) = xs.take b := by
  unfold cutL
  rw [HT.sIx_nat, HT.sIx_none, List.drop_zero, Nat.sub_zero]
  by_cases h : b ≤ xs.length
  · rw [Nat.min_eq_left h]
  · rw [Nat.min_eq_right (by omega), List.take_of_length_le (Nat.le_refl _), List.take_of_length_le (by omega)]
theorem cut_from {α : Type} {xs : List α} {a : Nat} : cutL xs (some (a : Int)) none = xs.drop a := by
  unfold cutL
  rw [HT.sIx_nat, HT.sIx_none]
  by_cases h : a ≤ xs.length
  · rw [Nat.min_eq_left h]
    exact List.take_of_length_le (by rw [List.length_drop]; exact Nat.le_refl _)
  · rw [Nat.min_eq_right (by omega), List.drop_of_length_le (Nat.le_refl _), List.drop_of_length_le (by omega)]
    simp
end DV

set_option Elab.async false
set_option linter.all false
set_option maxRecDepth 100000
/-! DV25: isinstance. -/
namespace DV
open L2 PySem
theorem kit_NoneType_bool : kitB "NoneType" "bool" = some false := by decide +kernel
theorem kit_bool_bool : kitB "bool" "bool" = some true := by decide +kernel
theorem kit_int_bool : kitB "int" "bool" = some false := by decide +kernel
theorem kit_str_bool : kitB "str" "bool" = some false := by decide +kernel
theorem kit_list_bool : kitB "list" "bool" = some false := by decide +kernel
theorem kit_tuple_bool : kitB "tuple" "bool" = some false := by decide +kernel
theorem kit_dict_bool : kitB "dict" "bool" = some false := by decide +kernel
theorem kit_NoneType_int : kitB "NoneType" "int" = some false := by decide +kernel
theorem kit_bool_int : kitB "bool" "int" = some true := by decide +kernel
theorem kit_int_int : kitB "int" "int" = some true := by decide +kernel
theorem kit_str_int : kitB "str" "int" = some false := by decide +kernel
theorem kit_list_int : kitB "list" "int" = some false := by decide +kernel
theorem kit_tuple_int : kitB "tuple" "int" = some false := by decide +kernel
theorem kit_dict_int : kitB "dict" "int" = some false := by decide +kernel
theorem kit_NoneType_str : kitB "NoneType" "str" = some false := by decide +kernel
theorem kit_bool_str : kitB "bool" "str" = some false := by decide +kernel
theorem kit_int_str : kitB "int" "str" = some false := by decide +kernel
theorem kit_str_str : kitB "str" "str" = some true := by decide +kernel
theorem kit_list_str : kitB "list" "str" = some false := by decide +kernel
theorem kit_tuple_str : kitB "tuple" "str" = some false := by decide +kernel
theorem kit_dict_str : kitB "dict" "str" = some false := by decide +kernel
theorem kit_NoneType_list : kitB "NoneType" "list" = some false := by decide +kernel
theorem kit_bool_list : kitB "bool" "list" = some false := by decide +kernel
theorem kit_int_list : kitB "int" "list" = some false := by decide +kernel
theorem kit_str_list : kitB "str" "list" = some false := by decide +kernel
theorem kit_list_list : kitB "list" "list" = some true := by decide +kernel
theorem kit_tuple_list : kitB "tuple" "list" = some false := by decide +kernel
theorem kit_dict_list : kitB "dict" "list" = some false := by decide +kernel
theorem kit_NoneType_tuple : kitB "NoneType" "tuple" = some false := by decide +kernel
theorem kit_bool_tuple : kitB "bool" "tuple" = some false := by decide +kernel
theorem kit_int_tuple : kitB "int" "tuple" = some false := by decide +kernel
theorem kit_str_tuple : kitB "str" "tuple" = some false := by decide +kernel
theorem kit_list_tuple : kitB "list" "tuple" = some false := by decide +kernel
theorem kit_tuple_tuple : kitB "tuple" "tuple" = some true := by decide +kernel
theorem kit_dict_tuple : kitB "dict" "tuple" = some false := by decide +kernel
theorem kit_NoneType_dict : kitB "NoneType" "dict" = some false := by decide +kernel
theorem kit_bool_dict : kitB "bool" "dict" = some false := by decide +kernel
theorem kit_int_dict : kitB "int" "dict" = some false := by decide +kernel
theorem kit_str_dict : kitB "str" "dict" = some false := by decide +kernel
theorem kit_list_dict : kitB "list" "dict" = some false := by decide +kernel
theorem kit_tuple_dict : kitB "tuple" "dict" = some false := by decide +kernel
theorem kit_dict_dict : kitB "dict" "dict" = some true := by decide +kernel
@[simp] theorem isi_bool_non  : gIsi "bool" [.non] = some (.d (.bl false)) := by simp only [gIsi, D.tyN, Option.bind_some, kit_NoneType_bool, Option.map_some]
@[simp] theorem isi_bool_bl {b : Bool} : gIsi "bool" [.bl b] = some (.d (.bl true)) := by simp only [gIsi, D.tyN, Option.bind_some, kit_bool_bool, Option.map_some]
@[simp] theorem isi_bool_int {i : Int} : gIsi "bool" [.int i] = some (.d (.bl false)) := by simp only [gIsi, D.tyN, Option.bind_some, kit_int_bool, Option.map_some]
@[simp] theorem isi_bool_str {s : List Nat} : gIsi "bool" [.str s] = some (.d (.bl false)) := by simp only [gIsi, D.tyN, Option.bind_some, kit_str_bool, Option.map_some]
@[simp] theorem isi_bool_lst {xs : List D} : gIsi "bool" [.lst xs] = some (.d (.bl false)) := by simp only [gIsi, D.tyN, Option.bind_some, kit_list_bool, Option.map_some]
@[simp] theorem isi_bool_tup {xs : List D} : gIsi "bool" [.tup xs] = some (.d (.bl false)) := by simp only [gIsi, D.tyN, Option.bind_some, kit_tuple_bool, Option.map_some]
@[simp] theorem isi_bool_dic {kv} : gIsi "bool" [.dic kv] = some (.d (.bl false)) := by simp only [gIsi, D.tyN, Option.bind_some, kit_dict_bool, Option.map_some]
@[simp] theorem isi_bool_wtup {xs : List D} : gIsi "bool" [.wtup xs] = some (.d (.bl false)) := by simp only [gIsi, D.tyN, Option.bind_some, kit_tuple_bool, Option.map_some]
@[simp] theorem isi_int_non  : gIsi "int" [.non] = some (.d (.bl false)) := by simp only [gIsi, D.tyN, Option.bind_some, kit_NoneType_int, Option.map_some]
@[simp] theorem isi_int_bl {b : Bool} : gIsi "int" [.bl b] = some (.d (.bl true)) := by simp only [gIsi, D.tyN, Option.bind_some, kit_bool_int, Option.map_some]
@[simp] theorem isi_int_int {i : Int} : gIsi "int" [.int i] = some (.d (.bl true)) := by simp only [gIsi, D.tyN, Option.bind_some, kit_int_int, Option.map_some]
@[simp] theorem isi_int_str {s : List Nat} : gIsi "int" [.str s] = some (.d (.bl false)) := by simp only [gIsi, D.tyN, Option.bind_some, kit_str_int, Option.map_some]
@[simp] theorem isi_int_lst {xs : List D} : gIsi "int" [.lst xs] = some (.d (.bl false)) := by simp only [gIsi, D.tyN, Option.bind_some, kit_list_int, Option.map_some]
@[simp] theorem isi_int_tup {xs : List D} : gIsi "int" [.tup xs] = some (.d (.bl false)) := by simp only [gIsi, D.tyN, Option.bind_some, kit_tuple_int, Option.map_some]
@[simp] theorem isi_int_dic {kv} : gIsi "int" [.dic kv] = some (.d (.bl false)) := by simp only [gIsi, D.tyN, Option.bind_some, kit_dict_int, Option.map_some]
@[simp] theorem isi_int_wtup {xs : List D} : gIsi "int" [.wtup xs] = some (.d (.bl false)) := by simp only [gIsi, D.tyN, Option.bind_some, kit_tuple_int, Option.map_some]
@[simp] theorem isi_str_non  : gIsi "str" [.non] = some (.d (.bl false)) := by simp only [gIsi, D.tyN, Option.bind_some, kit_NoneType_str, Option.map_some]
@[simp] theorem isi_str_bl {b : Bool} : gIsi "str" [.bl b] = some (.d (.bl false)) := by simp only [gIsi, D.tyN, Option.bind_some, kit_bool_str, Option.map_some]
@[simp] theorem isi_str_int {i : Int} : gIsi "str" [.int i] = some (.d (.bl false)) := by simp only [gIsi, D.tyN, Option.bind_some, kit_int_str, Option.map_some]
@[simp] theorem isi_str_str {s : List Nat} : gIsi "str" [.str s] = some (.d (.bl true)) := by simp only [gIsi, D.tyN, Option.bind_some, kit_str_str, Option.map_some]
@[simp] theorem isi_str_lst {xs : List D} : gIsi "str" [.lst xs] = some (.d (.bl false)) := by simp only [gIsi, D.tyN, Option.bind_some, kit_list_str, Option.map_some]
@[simp] theorem isi_str_tup {xs : List D} : gIsi "str" [.tup xs] = some (.d (.bl false)) := by simp only [gIsi, D.tyN, Option.bind_some, kit_tuple_str, Option.map_some]
@[simp] theorem isi_str_dic {kv} : gIsi "str" [.dic kv] = some (.d (.bl false)) := by simp only [gIsi, D.tyN, Option.bind_some, kit_dict_str, Option.map_some]
@[simp] theorem isi_str_wtup {xs : List D} : gIsi "str" [.wtup xs] = some (.d (.bl false)) := by simp only [gIsi, D.tyN, Option.bind_some, kit_tuple_str, Option.map_some]
@[simp] theorem isi_list_non  : gIsi "list" [.non] = some (.d (.bl false)) := by simp only [gIsi, D.tyN, Option.bind_some, kit_NoneType_list, Option.map_some]
@[simp] theorem isi_list_bl {b : Bool} : gIsi "list" [.bl b] = some (.d (.bl false)) := by simp only [gIsi, D.tyN, Option.bind_some, kit_bool_list, Option.map_some]
@[simp] theorem isi_list_int {i : Int} : gIsi "list" [.int i] = some (.d (.bl false)) := by simp only [gIsi, D.tyN, Option.bind_some, kit_int_list, Option.map_some]
@[simp] theorem isi_list_str {s : List Nat} : gIsi "list" [.str s] = some (.d (.bl false)) := by simp only [gIsi, D.tyN, Option.bind_some, kit_str_list, Option.map_some]
@[simp] theorem isi_list_lst {xs : List D} : gIsi "list" [.lst xs] = some (.d (.bl true)) := by simp only [gIsi, D.tyN, Option.bind_some, kit_list_list, Option.map_some]
@[simp] theorem isi_list_tup {xs : List D} : gIsi "list" [.tup xs] = some (.d (.bl false)) := by simp only [gIsi, D.tyN, Option.bind_some, kit_tuple_list, Option.map_some]
@[simp] theorem isi_list_dic {kv} : gIsi "list" [.dic kv] = some (.d (.bl false)) := by simp only [gIsi, D.tyN, Option.bind_some, kit_dict_list, Option.map_some]
@[simp] theorem isi_list_wtup {xs : List D} : gIsi "list" [.wtup xs] = some (.d (.bl false)) := by simp only [gIsi, D.tyN, Option.bind_some, kit_tuple_list, Option.map_some]
@[simp] theorem isi_tuple_non  : gIsi "tuple" [.non] = some (.d (.bl false)) := by simp only [gIsi, D.tyN, Option.bind_some, kit_NoneType_tuple, Option.map_some]
@[simp] theorem isi_tuple_bl {b : Bool} : gIsi "tuple" [.bl b] = some (.d (.bl false)) := by simp only [gIsi, D.tyN, Option.bind_some, kit_bool_tuple, Option.map_some]
@[simp] theorem isi_tuple_int {i : Int} : gIsi "tuple" [.int i] = some (.d (.bl false)) := by simp only [gIsi, D.tyN, Option.bind_some, kit_int_tuple, Option.map_some]
@[simp] theorem isi_tuple_str {s : List Nat} : gIsi "tuple" [.str s] = some (.d (.bl false)) := by simp only [gIsi, D.tyN, Option.bind_some, kit_str_tuple, Option.map_some]
@[simp] theorem isi_tuple_lst {xs : List D} : gIsi "tuple" [.lst xs] = some (.d (.bl false)) := by simp only [gIsi, D.tyN, Option.bind_some, kit_list_tuple, Option.map_some]
@[simp] theorem isi_tuple_tup {xs : List D} : gIsi "tuple" [.tup xs] = some (.d (.bl true)) := by simp only [gIsi, D.tyN, Option.bind_some, kit_tuple_tuple, Option.map_some]
@[simp] theorem isi_tuple_dic {kv} : gIsi "tuple" [.dic kv] = some (.d (.bl false)) := by simp only [gIsi, D.tyN, Option.bind_some, kit_dict_tuple, Option.map_some]
@[simp] theorem isi_tuple_wtup {xs : List D} : gIsi "tuple" [.wtup xs] = some (.d (.bl true)) := by simp only [gIsi, D.tyN, Option.bind_some, kit_tuple_tuple, Option.map_some]
@[simp] theorem isi_dict_non  : gIsi "dict" [.non] = some (.d (.bl false)) := by simp only [gIsi, D.tyN, Option.bind_some, kit_NoneType_dict, Option.map_some]
@[simp] theorem isi_dict_bl {b : Bool} : gIsi "dict" [.bl b] = some (.d (.bl false)) := by simp only [gIsi, D.tyN, Option.bind_some, kit_bool_dict, Option.map_some]
@[simp] theorem isi_dict_int {i : Int} : gIsi "dict" [.int i] = some (.d (.bl false)) := by simp only [gIsi, D.tyN, Option.bind_some, kit_int_dict, Option.map_some]
@[simp] theorem isi_dict_str {s : List Nat} : gIsi "dict" [.str s] = some (.d (.bl false)) := by simp only [gIsi, D.tyN, Option.bind_some, kit_str_dict, Option.map_some]
@[simp] theorem isi_dict_lst {xs : List D} : gIsi "dict" [.lst xs] = some (.d (.bl false)) := by simp only [gIsi, D.tyN, Option.bind_some, kit_list_dict, Option.map_some]
@[simp] theorem isi_dict_tup {xs : List D} : gIsi "dict" [.tup xs] = some (.d (.bl false)) := by simp only [gIsi, D.tyN, Option.bind_some, kit_tuple_dict, Option.map_some]
@[simp] theorem isi_dict_dic {kv} : gIsi "dict" [.dic kv] = some (.d (.bl true)) := by simp only [gIsi, D.tyN, Option.bind_some, kit_dict_dict, Option.map_some]
@[simp] theorem isi_dict_wtup {xs : List D} : gIsi "dict" [.wtup xs] = some (.d (.bl false)) := by simp only [gIsi, D.tyN, Option.bind_some, kit_tuple_dict, Option.map_some]
end DV

set_option Elab.async false
set_option linter.all false
set_option maxRecDepth 100000
set_option maxHeartbeats 1000000
/-! DV26: methods of texts, lists and dicts that change nothing. -/
namespace DV
open PySem L2 PySem.Spec PyProof.Rows
variable {G : Cfg}
def isTy (T : String) (o : Op) (env : Env) : Bool := match vw env o with
  | some (.str _) => decide (T = "str")
  | some (.lst _) => decide (T = "list")
  | some (.dic _) => decide (T = "dict")
  | _ => false
def rmM (T : String) (g : List D → Option R) (mo : M R) (ms : List (M R)) : M R := bnd (opd mo) fun o => bnd (chk (isTy T) o) fun _ => bnd (args ms) fun os => bnd (seen (o :: os)) fun ds => lift (g ds)
theorem isTy_ok {T : String} {B H : Hp} {σ : L2.St} {env : Env} {ss : SS} {v : V} {o : Op} (S : SR G B σ H env ss) (ho : OpRep G σ B H ss v o) (h : isTy T o env = true) : tyV G.K T v H := by
  unfold isTy at h
  cases hv : vw env o with
  | none => rw [hv] at h; cases h
  | some d =>
    rw [hv] at h
    have w := vw_ok S ho hv
    cases d with
    | str s => have := vw_str w; subst this; exact (of_decide_eq_true h : T = "str")
    | lst xs =>
      obtain ⟨p, vs, rfl, hp, hl⟩ := vw_lst S.ex w
      exact .inl ⟨of_decide_eq_true h, vs, SqL.of hp⟩
    | dic kvs =>
      obtain ⟨p, rfl, hx⟩ := vw_dic S.ex w
      refine .inr (.inr (.inl ⟨of_decide_eq_true h, ?_⟩))
      rcases hx with ⟨_, ws, hw, _⟩ | ⟨_, ws, hw, _⟩
      · exact .inl ⟨ws, hw⟩
      · exact .inr ⟨ws, hw⟩
    | _ => cases h
abbrev RdM (G : Cfg) (rd : V → List V → Hp → VK → Prop) (g : List D → Option R) : Prop := RdV G (fun vs H Q => ∃ x r, vs = x :: r ∧ rd x r H Q) g
section
variable {X : Cx} {E : WX} {o e : Expr} {es : List Expr} {apos cpos : Pos}
theorem je_rm {T id : String} {name : Str} {rd : V → List V → Hp → VK → Prop} {g : List D → Option R} {m : M R} {ms : List (M R)} (hK : X.K = G.K) (pa : PlainAttrs T) (slot : Slot T name id) (hty : typeOf (.builtin id) = pure (.type "method_descriptor")) (hm : MtR X id rd) (hr : RdM G rd g) (ho : JE G X E o m) (ha : JA G X E (e :: es) ms)
    (hbase : attributeBase o name X.env (eval o X.env) = eval o X.env := by rfl)
    (hfew : ((backTo cpos (starEach (e :: es) X.env)).all (fun x => !x.1) && (backToKw cpos (keywordEach [] X.env)).all (fun x => x.1.isSome)
      && decide ((e :: es).length + ([] : List Keyword).length + (if ([] : List Keyword).isEmpty then 0 else 1) < 30)) = true := by rfl)
    (hline : (apos.endLine == cpos.line) = true := by rfl) (hs : starEach (e :: es) X.env = (false, eval e X.env) :: starEach es X.env := by rfl) (hplain : (backTo cpos (starEach es X.env)).any (·.1) = false := by rfl) :
    JE G X E (.Call (.Attribute o name apos) (e :: es) [] cpos) (rmM T g m ms) := by
  refine pe_weak (pe_bm pa slot hty hm ho ha hbase hfew hline hs hplain) fun σ H Q ⟨B, env, ss, S, h⟩ => ?_
  unfold rmM at h
  refine opd_run S h fun oo env1 v B1 H1 ss1 st kp S1 O1 h1 => ?_
  unfold bnd chk at h1
  by_cases hc : isTy T oo env1 = true
  · simp only [hc, if_true] at h1
    refine ⟨by rw [hK]; exact isTy_ok S1 O1 hc, B1, env1, ss1, S1, ?_⟩
    refine Ok_run (m := args ms) (k := fun os => bnd (seen (oo :: os)) fun ds => lift (g ds)) h1 fun os env2 B2 H2 ss2 N _ st2 kp2 S2 _ h3 vs hv => ?_
    obtain ⟨_, _, e, q⟩ := fin_rd hr S2 (.cons (OpRep.step st2.eb kp2 O1) hv) h3
    cases e
    exact q
  · simp only [hc] at h1
    exact h1.elim
theorem je_rm0 {T id : String} {name : Str} {rd : V → List V → Hp → VK → Prop} {g : List D → Option R} {m : M R} (hK : X.K = G.K) (pa : PlainAttrs T) (slot : Slot T name id) (hty : typeOf (.builtin id) = pure (.type "method_descriptor")) (hm : MtR X id rd) (hr : RdM G rd g) (ho : JE G X E o m)
    (hbase : attributeBase o name X.env (eval o X.env) = eval o X.env := by rfl) (hline : (apos.endLine == cpos.line) = true := by rfl) : JE G X E (.Call (.Attribute o name apos) [] [] cpos) (rmM T g m []) := by
  refine pe_weak (pe_bm0 pa slot hty hm ho hbase hline) fun σ H Q ⟨B, env, ss, S, h⟩ => ?_
  unfold rmM at h
  refine opd_run S h fun oo env1 v B1 H1 ss1 st kp S1 O1 h1 => ?_
  unfold bnd chk at h1
  by_cases hc : isTy T oo env1 = true
  · simp only [hc, if_true] at h1
    refine ⟨by rw [hK]; exact isTy_ok S1 O1 hc, ?_⟩
    obtain ⟨_, _, e, q⟩ := fin_rd hr S1 (.cons O1 .nil) h1
    cases e
    exact q
  · simp only [hc] at h1
    exact h1.elim
end
theorem vwl_cons {B H : Hp} {vs : List V} {d : D} {ds : List D} (h : VwL G B H vs (d :: ds)) : ∃ v r, vs = v :: r ∧ Vw G B H v d ∧ VwL G B H r ds := by
  cases h with
  | cons h l => exact ⟨_, _, rfl, h, l⟩
/-! ### texts -/
theorem str_eta (x : Str) : (⟨x.cps.toList.toArray⟩ : Str) = x := by cases x; simp
theorem Out.strE {B H : Hp} {x : Str} {Q : VK} (e : Ex B H) (k : Out G B H (.d (.str x.cps.toList)) Q) : Q (.str x) H := by
  have := Out.str e k
  rwa [str_eta] at this
def strsOf : List D → Option (List (List Nat))
  | [] => some []
  | .str s :: r => (strsOf r).map fun ss => s :: ss
  | _ :: _ => none
theorem frL_strs {B : Hp} : ∀ {vs : List V} {ds : List D} {ws : List (List Nat)}, FrL G B vs ds → strsOf ds = some ws → vs = (ws.map fun w => (⟨w.toArray⟩ : Str)).map V.str
  | _, _, ws, .nil, e => by cases e; rfl
  | _, _, ws, .cons (d := d) h l, e => by
    cases h with
    | str s =>
      simp only [strsOf, Option.map_eq_some_iff] at e
      obtain ⟨ss, e1, rfl⟩ := e
      rw [frL_strs l e1]
      rfl
    | _ => simp [strsOf] at e
def joinT (a : List Nat) (ws : List (List Nat)) : List Nat := (Txt.join ⟨a.toArray⟩ (ws.map fun w => (⟨w.toArray⟩ : Str))).cps.toList
def gJoinW (a : List Nat) (xs : List D) : Option R := (strsOf xs).bind fun ws => if (ws.map List.length).sum + ws.length * a.length < 100000 then some (.d (.str (joinT a ws))) else none
def gJoin : List D → Option R
  | [.str a, .lst xs] => gJoinW a xs
  | [.str a, .tup xs] => gJoinW a xs
  | _ => none
theorem rd_join : RdM G (fun x xs H Q => ∃ a p, ∃ ys : List Str, x = .str a ∧ xs = [.ref p] ∧ (SqL G.K H p (ys.map V.str) ∨ SqT G.K H p (ys.map V.str)) ∧ (ys.map (·.length)).sum + ys.length * a.length ≤ 16777216 ∧ Q (.str (Txt.join a ys)) H) gJoin := by
  intro B H vs ds q e hv hg Q k
  have main : ∀ (a : List Nat) (d : D) (xs : List D), VwL G B H vs [.str a, d] → seqOf d = some xs → gJoinW a xs = some q → ∃ x r, vs = x :: r ∧ ∃ a p, ∃ ys : List Str, x = .str a ∧ r = [.ref p] ∧ (SqL G.K H p (ys.map V.str) ∨ SqT G.K H p (ys.map V.str)) ∧ (ys.map (·.length)).sum + ys.length * a.length ≤ 16777216 ∧ Q (.str (Txt.join a ys)) H := by
    intro a d xs hv hd hg
    obtain ⟨v, w, rfl, h1, h2⟩ := vwl2 hv
    have := vw_str h1
    subst this
    obtain ⟨p, us, rfl, hs, hl⟩ := vw_seqOf e h2 hd
    unfold gJoinW at hg
    rw [Option.bind_eq_some_iff] at hg
    obtain ⟨ws, hw, hg⟩ := hg
    split at hg
    · rename_i hlt
      cases hg
      have := frL_strs hl hw
      subst this
      refine ⟨_, _, rfl, _, p, ws.map fun w => (⟨w.toArray⟩ : Str), rfl, rfl, hs, ?_, Out.strE e k⟩
      have e1 : ((ws.map fun w => (⟨w.toArray⟩ : Str)).map fun x => x.length) = ws.map List.length := by
        rw [List.map_map]
        congr 1
      rw [e1, List.length_map, str_len]
      omega
    · cases hg
  unfold gJoin at hg
  split at hg
  · exact main _ _ _ hv rfl hg
  · exact main _ _ _ hv rfl hg
  · cases hg
def gS1 (f : Str → Str) : List D → Option R
  | [.str s] => if s.length < 100000 then some (.d (.str (f ⟨s.toArray⟩).cps.toList)) else none
  | _ => none
theorem rd_s1 {f : Str → Str} {b : Nat} (hb : 100000 ≤ b) : RdM G (fun x xs H Q => ∃ a, x = .str a ∧ xs = [] ∧ a.length ≤ b ∧ Q (.str (f a)) H) (gS1 f) := by
  intro B H vs ds q e hv hg Q k
  unfold gS1 at hg
  split at hg
  · split at hg
    · rename_i hlt
      cases hg
      obtain ⟨v, rfl, h1⟩ := vwl1 hv
      have := vw_str h1
      subst this
      exact ⟨_, _, rfl, _, rfl, rfl, by rw [str_len]; omega, Out.strE e k⟩
    · cases hg
  · cases hg
def gSB (f : Str → Bool) : List D → Option R
  | [.str s] => some (.d (.bl (f ⟨s.toArray⟩)))
  | _ => none
theorem rd_sB {f : Str → Bool} : RdM G (fun x xs H Q => ∃ a, x = .str a ∧ xs = [] ∧ True ∧ Q (.bl (f a)) H) (gSB f) := by
  intro B H vs ds q e hv hg Q k
  unfold gSB at hg
  split at hg
  · cases hg
    obtain ⟨v, rfl, h1⟩ := vwl1 hv
    have := vw_str h1
    subst this
    exact ⟨_, _, rfl, _, rfl, rfl, trivial, Out.bl e k⟩
  · cases hg
end DV

set_option Elab.async false
set_option linter.all false
set_option maxRecDepth 100000
set_option maxHeartbeats 1000000
/-! DV27: tuple(xs) as a tuple without a dict; t.index(x). -/
namespace DV
open PySem L2 PySem.Spec PyProof.Rows
variable {G : Cfg}
def rTupW (K : PySem.W.Frag) : List V → Hp → VK → Prop := fun xs H Q => ∃ p ys, xs = [.ref p] ∧ SqL K H p ys ∧ ∀ (l : Addr) (o : Obj), H l = none → o.dict = none → Q (.ref l) (upd H l (.frz o (.tup ys)))
theorem call_tupleW {X : Cx} : CallR X (.type "tuple") (rTupW X.K) := by
  intro pins s σ H xs us Q I r h
  obtain ⟨p, ys, rfl, hq, q⟩ := h
  obtain ⟨u, rfl, rx⟩ := vals1 r
  cases rx
  obtain ⟨its, r', pl, hz⟩ := I.list hq
  have hlen := r'.length
  refine call_tuple_list pl.isList (fun h' kp => ?_) (by simp only [List.size_toArray] <;> omega)
  have I1 : Inv X pins σ H { s with heap := h' } := I.kept (t' := s.toks) kp
  have I2 : Inv X pins σ (upd H h'.objs.size (.frz { cls := .type "tuple", data := .seq its.toArray } (.tup ys))) { s with heap := h'.push { cls := .type "tuple", data := .seq its.toArray } } :=
    I1.laid (t' := s.toks) (fun b o e => Heap.get?_push_of_some _ e) (Nat.le_refl _) ⟨Heap.get?_push_size _ rfl, hz, its, r', IsTup.new _ _⟩
  exact ⟨.ref h'.objs.size, _, I2, rfl, q _ _ (I1.hok.fresh (Nat.le_refl _)) rfl⟩
def gTupleW : List D → Option R
  | [.lst xs] => some (.d (.wtup xs))
  | _ => none
theorem rd_tupleW : RdV G (rTupW G.K) gTupleW := by
  intro B H vs ds q e hv hg Q k
  unfold gTupleW at hg
  split at hg
  · cases hg
    obtain ⟨v, rfl, h1⟩ := vwl1 hv
    obtain ⟨p, us, rfl, hp, hl⟩ := vw_lst e h1
    refine ⟨p, us, rfl, SqL.of hp, fun l o hn hd => ?_⟩
    have bp : B l = none := e.back hn
    refine k _ [] (upd B l (.frz o (.tup us))) _ ⟨Ex.new bp, Ex.new hn, fun b u h => ?_, fun b u h h0 => ?_⟩ ⟨rfl, .wtup (.inr ⟨o, upd_same, hd⟩) (hl.mono (Ex.new bp))⟩ (by simp)
    · by_cases hb : b = l
      · subst hb; rw [upd_same] at h ⊢; exact h
      · rw [upd_ne hb] at h ⊢; exact e _ _ h
    · rw [upd_ne (fun z => by rw [z, hn] at h; cases h)]; exact h0
  · cases hg
/-! ### t.index(x) -/
theorem tupW_at {X : Cx} {pins : List (Addr × Obj)} {σ : L2.St} {H : Hp} {s : Shared} {p : Addr} {vs : List V} (I : Inv X pins σ H s) (h : TupW X.K H p vs) : ∃ ob, s.heap.get? p = some ob ∧ ob.cls = .type "tuple" ∧ ob.dict = none := by
  rcases h with ⟨o, its, n, h1, h2, h3, _⟩ | ⟨o, h1, h2⟩
  · exact ⟨o, I.kIn _ _ h1, h2, h3⟩
  · obtain ⟨e1, hz, its, r, o', e2, c, _⟩ := I.hok p _ h1
    rw [e1] at e2
    cases e2
    exact ⟨o, e1, c, h2⟩
def tTIx (K : PySem.W.Frag) (to : TE) (t : TA) : TE := fun σ H Q => to σ H fun x H1 => (∃ p vs, x = .ref p ∧ TupW K H1 p vs) ∧ t σ H1 fun xs H2 => ∃ (p : Addr) (ns : List Int) (k : Int), x = .ref p ∧ xs = [.int k] ∧ SqT K H2 p (ns.map V.int) ∧ k ∈ ns ∧ Q (.int (ns.idxOf k : Nat)) H2
theorem pe_tix {X : Cx} {o e : Expr} {apos cpos : Pos} {to : TE} {t : TA} (ho : PE X o to) (ha : PA X [e] t)
    (hbase : attributeBase o "index" X.env (eval o X.env) = eval o X.env := by rfl)
    (hfew : ((backTo cpos (starEach [e] X.env)).all (fun x => !x.1) && (backToKw cpos (keywordEach [] X.env)).all (fun x => x.1.isSome)
      && decide (([e] : List Expr).length + ([] : List Keyword).length + (if ([] : List Keyword).isEmpty then 0 else 1) < 30)) = true := by rfl)
    (hline : (apos.endLine == cpos.line) = true := by rfl) (hs : starEach [e] X.env = (false, eval e X.env) :: starEach [] X.env := by rfl) (hplain : (backTo cpos (starEach [] X.env)).any (·.1) = false := by rfl) :
    PE X (.Call (.Attribute o "index" apos) [e] [] cpos) (tTIx X.K to t) := by
  refine ⟨fun pins s σ H Q I h => ?_⟩
  refine wpAny_Call_method_late hbase hfew hline rfl (thn (ho.run pins s σ H _ I h) fun v s1 ⟨x, H1, I1, r1, ⟨p, vs, ex, hw⟩, q1⟩ => ?_)
  subst ex
  obtain rfl : v = Value.ref p := r1
  obtain ⟨ob, e1, e2, e3⟩ := tupW_at I1 hw
  refine ⟨"tuple", "tuple.index", PySem.F.plainAttrs_tuple, PySem.F.slot_tuple_index, PySem.F.type_tuple_index, ⟨ob, e1, e2⟩, fun a ha => ?_, ?_⟩
  · cases ha; exact ⟨ob, e1, e3⟩
  have hA := ha.run cpos pins s1 σ H1 _ I1 q1
  rw [hs] at hA ⊢
  refine Calls.callWith_builtin (by show (false || (backTo cpos (starEach [] X.env)).any (·.1)) = false; rw [hplain] <;> rfl) (Calls.evalArgs_plain ?_)
  refine thn hA fun us s2 ⟨ws, H2, I2, r2, p', ns, k, ep, ew, hq, hk, q2⟩ => ?_
  cases ep
  subst ew
  obtain ⟨u, rfl, ru⟩ := vals1 r2
  obtain ⟨tk, rfl⟩ := ru
  obtain ⟨its, rr, pl, hz⟩ := I2.tuple hq
  exact PySem.SeqAt.tuple_index_ints (vs := its) pl rr.ints hk ⟨.int _, H2, I2.tok _, ⟨_, rfl⟩, q2⟩
def isW (o : Op) (env : Env) : Bool := match vw env o with
  | some (.wtup _) => true
  | _ => false
def intsOf : List D → Option (List Int)
  | [] => some []
  | .int i :: r => (intsOf r).map fun is => i :: is
  | _ :: _ => none
theorem frL_intsOf {B : Hp} : ∀ {vs : List V} {ds : List D} {ns : List Int}, FrL G B vs ds → intsOf ds = some ns → vs = ns.map V.int
  | _, _, ns, .nil, e => by cases e; rfl
  | _, _, ns, .cons (d := d) h l, e => by
    cases h with
    | int i =>
      simp only [intsOf, Option.map_eq_some_iff] at e
      obtain ⟨is, e1, rfl⟩ := e
      rw [frL_intsOf l e1]
      rfl
    | _ => simp [intsOf] at e
theorem intsOf_map (ns : List Int) : intsOf (ns.map .int) = some ns := by
  induction ns with
  | nil => rfl
  | cons n ns ih => rw [List.map_cons, intsOf, ih]; rfl
def gTIx : List D → Option R
  | [.wtup xs, .int k] => (intsOf xs).bind fun ns => if k ∈ ns then some (.d (.int (ns.idxOf k : Nat))) else none
  | _ => none
def tixM (mo m : M R) : M R := bnd (opd mo) fun o => bnd (chk isW o) fun _ => bnd (args [m]) fun os => bnd (seen (o :: os)) fun ds => lift (gTIx ds)
theorem je_tix {X : Cx} {E : WX} {o e : Expr} {apos cpos : Pos} {mo m : M R} (hK : X.K = G.K) (ho : JE G X E o mo) (ha : JA G X E [e] [m])
    (hbase : attributeBase o "index" X.env (eval o X.env) = eval o X.env := by rfl)
    (hfew : ((backTo cpos (starEach [e] X.env)).all (fun x => !x.1) && (backToKw cpos (keywordEach [] X.env)).all (fun x => x.1.isSome)
      && decide (([e] : List Expr).length + ([] : List Keyword).length + (if ([] : List Keyword).isEmpty then 0 else 1) < 30)) = true := by rfl)
    (hline : (apos.endLine == cpos.line) = true := by rfl) (hs : starEach [e] X.env = (false, eval e X.env) :: starEach [] X.env := by rfl) (hplain : (backTo cpos (starEach [] X.env)).any (·.1) = false := by rfl) :
    JE G X E (.Call (.Attribute o "index" apos) [e] [] cpos) (tixM mo m) := by
  refine pe_weak (pe_tix ho ha hbase hfew hline hs hplain) fun σ H Q ⟨B, env, ss, S, h⟩ => ?_
  unfold tixM at h
  refine opd_run S h fun oo env1 v B1 H1 ss1 st kp S1 O1 h1 => ?_
  unfold bnd chk at h1
  by_cases hc : isW oo env1 = true
  · simp only [hc, if_true] at h1
    have hw : ∃ xs, vw env1 oo = some (.wtup xs) := by
      unfold isW at hc
      split at hc
      · rename_i xs hx; exact ⟨xs, hx⟩
      · cases hc
    obtain ⟨xs, hx⟩ := hw
    obtain ⟨p, us, rfl, hT, hl⟩ := vw_wtup S1.ex (vw_ok S1 O1 hx)
    refine ⟨⟨p, us, rfl, by rw [hK]; exact hT⟩, B1, env1, ss1, S1, ?_⟩
    refine Ok_run (m := args [m]) (k := fun os => bnd (seen (oo :: os)) fun ds => lift (gTIx ds)) h1 fun os env2 B2 H2 ss2 N _ st2 kp2 S2 _ h3 vs hv => ?_
    have key : RdV G (fun vs H Q => ∃ x r, vs = x :: r ∧ ∃ (p : Addr) (ns : List Int) (k : Int), x = .ref p ∧ r = [.int k] ∧ SqT G.K H p (ns.map V.int) ∧ k ∈ ns ∧ Q (.int (ns.idxOf k : Nat)) H) gTIx := by
      intro B H vs ds q e hv hg Q k
      unfold gTIx at hg
      split at hg
      · obtain ⟨v, w, rfl, h1, h2⟩ := vwl2 hv
        obtain ⟨p, us, rfl, hw, hl⟩ := vw_wtup e h1
        have := vw_int h2
        subst this
        rw [Option.bind_eq_some_iff] at hg
        obtain ⟨ns, hn, hg⟩ := hg
        split at hg
        · rename_i hk
          cases hg
          have := frL_intsOf hl hn
          subst this
          exact ⟨_, _, rfl, p, ns, _, rfl, rfl, hw.seq, hk, Out.int e k⟩
        · cases hg
      · cases hg
    obtain ⟨_, _, e, p', ns, k, e1, e2, q⟩ := fin_rd key S2 (.cons (OpRep.step st2.eb kp2 O1) hv) h3
    cases e
    exact ⟨p', ns, k, e1, e2, by rw [hK]; exact q⟩
  · simp only [hc] at h1
    exact h1.elim
/-! ### truth -/
def truD : D → Option Bool
  | .non => some false
  | .bl b => some b
  | .int i => some (i != 0)
  | .str s => if s.length < 100000 then some (!s.isEmpty) else none
  | .lst xs => some (!xs.isEmpty)
  | .tup xs => some (!xs.isEmpty)
  | .wtup xs => some (!xs.isEmpty)
  | .dic (false, kvs) => some (!kvs.isEmpty)
  | _ => none
def trM (m : M R) : M Bool := bnd (opd m) fun o env => match (vw env o).bind truD with
  | some b => .ok b env
  | none => .fail
theorem truD_ok {B H : Hp} {v : V} {d : D} {b : Bool} (e : Ex B H) (h : Vw G B H v d) (ht : truD d = some b) : TruV G.K v H b := by
  have emp : ∀ {vs : List V} {ds : List D}, FrL G B vs ds → (!vs.isEmpty) = !ds.isEmpty := fun l => by cases l <;> rfl
  cases d with
  | non => cases ht; cases vw_non h; rfl
  | bl b => cases ht; cases vw_bl h; rfl
  | int i => cases ht; cases vw_int h; rfl
  | str s =>
    simp only [truD] at ht
    split at ht
    · rename_i hl
      cases ht
      cases vw_str h
      refine ⟨lim_le (by rw [str_len]; exact hl), ?_⟩
      rw [str_len]
      cases s <;> simp
      omega
    · cases ht
  | lst xs =>
    cases ht
    obtain ⟨p, vs, rfl, hp, l⟩ := vw_lst e h
    exact .inl ⟨vs, SqL.of hp, (emp l).symm⟩
  | tup xs =>
    cases ht
    obtain ⟨p, vs, rfl, _, hp, l⟩ := vw_tup e h
    exact .inr (.inl ⟨vs, SqT.of hp, (emp l).symm⟩)
  | wtup xs =>
    cases ht
    obtain ⟨p, vs, rfl, hw, l⟩ := vw_wtup e h
    exact .inr (.inl ⟨vs, hw.seq, (emp l).symm⟩)
  | dic kv =>
    obtain ⟨p, rfl, hx⟩ := vw_dic e h
    obtain ⟨t, kvs⟩ := kv
    cases t with
    | true => cases ht
    | false =>
      cases ht
      rcases hx with ⟨_, ws, hw, l⟩ | ⟨z, _⟩
      · refine .inr (.inr ⟨ws, hw, ?_⟩)
        cases l <;> rfl
      · cases z
  | scr ns => cases ht
theorem jt_truth {X : Cx} {E : WX} {e : Expr} {m : M R} (hK : X.K = G.K) (he : JE G X E e m) (hi : ∀ whole, isTrue e X.env whole = (do let v ← whole; standAt e.pos; holding [v] (truthy v)) := by intro _; rfl) : JT G X E e (trM m) := by
  refine pt_weak (pt_truth he hi) fun σ H Q ⟨B, env, ss, S, h⟩ => ?_
  unfold trM at h
  refine opd_run S h fun oo env1 v B1 H1 ss1 st kp S1 O1 h1 => ?_
  cases hv : vw env1 oo with
  | none => rw [hv] at h1; exact h1.elim
  | some d =>
    rw [hv, Option.bind_some] at h1
    cases ht : truD d with
    | none => rw [ht] at h1; exact h1.elim
    | some b =>
      rw [ht] at h1
      exact ⟨b, by rw [hK]; exact truD_ok S1.ex (vw_ok S1 O1 hv) ht, h1.get S1⟩
end DV

set_option Elab.async false
set_option linter.all false
set_option maxRecDepth 100000
set_option maxHeartbeats 1000000
/-! DV28: str.index, list(range(n)). -/
namespace DV
open PySem L2 PySem.Spec PyProof.Rows
variable {G : Cfg}
def sIdx (a b : List Nat) : Option Nat := (Builtin.Str.occurrences ⟨a.toArray⟩ ⟨b.toArray⟩ 0 a.length 1).head?
def gSIx : List D → Option R
  | [.str a, .str b] => (sIdx a b).map fun i => .d (.int (i : Nat))
  | _ => none
theorem rd_sindex : RdM G (fun x xs H Q => ∃ (a b : Str) (i : Nat) (rest : List Nat), x = .str a ∧ xs = [.str b] ∧ Builtin.Str.occurrences a b 0 a.length 1 = i :: rest ∧ Q (.int (i : Nat)) H) gSIx := by
  intro B H vs ds q e hv hg Q k
  unfold gSIx at hg
  split at hg
  · obtain ⟨v, w, rfl, h1, h2⟩ := vwl2 hv
    have := vw_str h1
    subst this
    have := vw_str h2
    subst this
    rw [Option.map_eq_some_iff] at hg
    obtain ⟨i, hi, rfl⟩ := hg
    unfold sIdx at hi
    rw [List.head?_eq_some_iff] at hi
    obtain ⟨rest, hr⟩ := hi
    exact ⟨_, _, rfl, _, _, i, rest, rfl, rfl, by rw [str_len]; exact hr, Out.int e k⟩
  · cases hg
/-! ### list(range(n)) -/
def gLRg1 : List D → Option R
  | [.int n] => if -100000 < n ∧ n < 100000 then some (.lst (DV.rgV 0 n.toNat)) else none
  | _ => none
theorem frL_rg {B : Hp} (n : Int) : FrL G B (L2.rgV 0 n) (DV.rgV 0 n.toNat) := by
  unfold L2.rgV DV.rgV
  rw [Int.sub_zero]
  generalize List.range n.toNat = l
  induction l with
  | nil => exact .nil
  | cons a l ih => exact .cons (.int _) ih
theorem rd_lrg1 : RdV G (fun vs H Q => ∃ x, vs = [x] ∧ ∃ n, x = V.int n ∧ RgOk 0 n ∧ ∀ q, H q = none → Q (.ref q) (upd H q (.lst (L2.rgV 0 n)))) gLRg1 := by
  intro B H vs ds q e hv hg Q k
  unfold gLRg1 at hg
  split at hg
  · rename_i n
    split at hg
    · rename_i hn
      cases hg
      obtain ⟨v, rfl, h1⟩ := vwl1 hv
      have := vw_int h1
      subst this
      exact ⟨_, rfl, n, rfl, ⟨by omega, by omega, by omega, by omega, by omega⟩, fun p hp => Out.lst e (frL_rg n) hp k⟩
    · cases hg
  · cases hg
theorem je_lrg1 {X : Cx} {E : WX} {a : Expr} {m : M R} {p p2 pos pos2 : Pos} (hc : X.calm = true) (hm : X.mg "list" = none) (hm2 : X.mg "range" = none) (ha : JE G X E a m) (hg : Gl X "list" := by rfl) (hg2 : Gl X "range" := by rfl) (na : starEach [a] X.env = (false, eval a X.env) :: starEach [] X.env := by rfl)
    (nb : starEach [.Call (.Name "range" p2) [a] [] pos2] X.env = (false, eval (.Call (.Name "range" p2) [a] [] pos2) X.env) :: starEach [] X.env := by rfl) : JE G X E (.Call (.Name "list" p) [.Call (.Name "range" p2) [a] [] pos2] [] pos) (opM gLRg1 [m]) :=
  pe_weak (pe_listRg hc hg hm (prg_1 hg2 hm2 ha na) nb) fun σ H Q h => tUn_of rd_lrg1 h
/-! ### d.get(k), d.get(k, x) -/
def getM (mo mk : M R) (mx : Option (M R)) : M R := bnd (opd mo) fun o => bnd (chk (isTy "dict") o) fun _ => bnd (opd mk) fun k => match mx with
  | none => bnd (seen [o, k]) fun ds => match ds with
    | [.dic kvs, k] => lift ((dLook kvs k).map fun r => .d (r.getD .non))
    | _ => failM
  | some mx => bnd (frz mx) fun x => bnd (seen [o, k]) fun ds => match ds with
    | [.dic kvs, k] => lift ((dLook kvs k).map fun r => .d (r.getD x))
    | _ => failM
theorem isD_of {B H : Hp} {σ : L2.St} {env : Env} {ss : SS} {v : V} {o : Op} (S : SR G B σ H env ss) (ho : OpRep G σ B H ss v o) (h : isTy "dict" o env = true) : ∃ a, v = .ref a ∧ IsD H a := by
  unfold isTy at h
  cases hv : vw env o with
  | none => rw [hv] at h; cases h
  | some d =>
    rw [hv] at h
    have w := vw_ok S ho hv
    cases d with
    | dic kvs =>
      obtain ⟨p, rfl, hx⟩ := vw_dic S.ex w
      refine ⟨p, rfl, ?_⟩
      rcases hx with ⟨_, ws, hw, _⟩ | ⟨_, ws, hw, _⟩
      · exact .inl ⟨ws, .inl hw⟩
      · exact .inr ⟨ws, .inl hw⟩
    | str s => exact absurd (of_decide_eq_true h) (by decide)
    | lst s => exact absurd (of_decide_eq_true h) (by decide)
    | _ => cases h
section
variable {X : Cx} {E : WX} {o e f : Expr} {apos cpos : Pos} {mo mk mx : M R}
theorem je_get1 (hu : X.A.units + 1 < cLine) (ho : JE G X E o mo) (he : JE G X E e mk) (m : M1 X o "get" apos e cpos) : JE G X E (.Call (.Attribute o "get" apos) [e] [] cpos) (getM mo mk none) := by
  refine pe_weak (pe_dget1 hu ho he m) fun σ H Q ⟨B, env, ss, S, h⟩ => ?_
  unfold getM at h
  refine opd_run S h fun oo env1 v B1 H1 ss1 st kp S1 O1 h1 => ?_
  unfold bnd chk at h1
  by_cases hc : isTy "dict" oo env1 = true
  · simp only [hc, if_true] at h1
    obtain ⟨a, rfl, hd⟩ := isD_of S1 O1 hc
    refine ⟨a, rfl, hd, ?_⟩
    refine opd_run (m := mk) (k := fun k => bnd (seen [oo, k]) fun ds => match ds with | [.dic kvs, k] => lift ((dLook kvs k).map fun r => R.d (r.getD .non)) | _ => failM) S1 h1 fun k env2 w B2 H2 ss2 st2 kp2 S2 O2 h2 => ?_
    have O1' : OpRep G σ B2 H2 ss2 (.ref a) oo := OpRep.step st2.eb kp2 O1
    rw [bnd_app] at h2
    unfold seen at h2
    cases hv : vws env2 [oo, k] with
    | none => rw [hv] at h2; exact h2.elim
    | some ds =>
      rw [hv, rb_ok] at h2
      have hw := vws_ok S2 (.cons O1' (.cons O2 .nil)) hv
      match ds, hw, h2 with
      | [.dic kvs, kd], hw, h2 =>
        obtain ⟨v1, v2, e1, w1, w2⟩ := vwl2 hw
        cases e1
        simp only at h2
        cases hl : dLook kvs kd with
        | none => rw [hl] at h2; exact h2.elim
        | some r =>
          rw [hl] at h2
          obtain ⟨p, oo2, e2, hg, hq⟩ := dlook_ok S2.ex w1 w2 hl
          cases e2
          refine ⟨oo2, hg, ?_⟩
          rcases hq with ⟨rfl, rfl⟩ | ⟨d, u, rfl, rfl, fu⟩
          · exact h2.get S2 _ [] rfl ⟨rfl, .non⟩
          · exact h2.get S2 _ [] rfl ⟨rfl, fu⟩
      | [], hw, h2 => exact h2.elim
      | [.non], hw, h2 => exact h2.elim
      | _ :: _ :: _ :: _, hw, h2 => cases hw with | cons _ l => cases l with | cons _ l => cases l
      | [_], hw, h2 => cases hw with | cons _ l => cases l
      | [.non, _], hw, h2 => exact h2.elim
      | [.bl _, _], hw, h2 => exact h2.elim
      | [.int _, _], hw, h2 => exact h2.elim
      | [.str _, _], hw, h2 => exact h2.elim
      | [.lst _, _], hw, h2 => exact h2.elim
      | [.tup _, _], hw, h2 => exact h2.elim
      | [.wtup _, _], hw, h2 => exact h2.elim
      | [.scr _, _], hw, h2 => exact h2.elim
  · simp only [hc] at h1
    exact h1.elim
theorem je_get2 (hu : X.A.units + 1 < cLine) (ho : JE G X E o mo) (he : JE G X E e mk) (hf : JE G X E f mx) (m : M2 X o "get" apos e f cpos) : JE G X E (.Call (.Attribute o "get" apos) [e, f] [] cpos) (getM mo mk (some mx)) := by
  refine pe_weak (pe_dget2 hu ho he hf m) fun σ H Q ⟨B, env, ss, S, h⟩ => ?_
  unfold getM at h
  refine opd_run S h fun oo env1 v B1 H1 ss1 st kp S1 O1 h1 => ?_
  unfold bnd chk at h1
  by_cases hc : isTy "dict" oo env1 = true
  · simp only [hc, if_true] at h1
    obtain ⟨a, rfl, hd⟩ := isD_of S1 O1 hc
    refine ⟨a, rfl, hd, ?_⟩
    refine opd_run (m := mk) (k := fun k => bnd (frz mx) fun x => bnd (seen [oo, k]) fun ds => match ds with | [.dic kvs, k] => lift ((dLook kvs k).map fun r => R.d (r.getD x)) | _ => failM) S1 h1 fun k env2 w B2 H2 ss2 st2 kp2 S2 O2 h2 => ?_
    refine frz_run S2 h2 fun x env3 z B3 H3 ss3 st3 kp3 S3 fx h3 => ?_
    have O1a : OpRep G σ B2 H2 ss2 (.ref a) oo := OpRep.step st2.eb kp2 O1
    have O1' : OpRep G σ B3 H3 ss3 (.ref a) oo := OpRep.step st3.eb kp3 O1a
    have O2' : OpRep G σ B3 H3 ss3 w k := OpRep.step st3.eb kp3 O2
    rw [bnd_app] at h3
    unfold seen at h3
    cases hv : vws env3 [oo, k] with
    | none => rw [hv] at h3; exact h3.elim
    | some ds =>
      rw [hv, rb_ok] at h3
      have hw := vws_ok S3 (.cons O1' (.cons O2' .nil)) hv
      match ds, hw, h3 with
      | [.dic kvs, kd], hw, h3 =>
        obtain ⟨v1, v2, e1, w1, w2⟩ := vwl2 hw
        cases e1
        simp only at h3
        cases hl : dLook kvs kd with
        | none => rw [hl] at h3; exact h3.elim
        | some r =>
          rw [hl] at h3
          obtain ⟨p, oo2, e2, hg, hq⟩ := dlook_ok S3.ex w1 w2 hl
          cases e2
          refine ⟨oo2, hg, ?_⟩
          rcases hq with ⟨rfl, rfl⟩ | ⟨d, u, rfl, rfl, fu⟩
          · exact h3.get S3 _ [] rfl ⟨rfl, fx⟩
          · exact h3.get S3 _ [] rfl ⟨rfl, fu⟩
      | [], hw, h3 => exact h3.elim
      | [.non], hw, h3 => exact h3.elim
      | _ :: _ :: _ :: _, hw, h3 => cases hw with | cons _ l => cases l with | cons _ l => cases l
      | [_], hw, h3 => cases hw with | cons _ l => cases l
      | [.non, _], hw, h3 => exact h3.elim
      | [.bl _, _], hw, h3 => exact h3.elim
      | [.int _, _], hw, h3 => exact h3.elim
      | [.str _, _], hw, h3 => exact h3.elim
      | [.lst _, _], hw, h3 => exact h3.elim
      | [.tup _, _], hw, h3 => exact h3.elim
      | [.wtup _, _], hw, h3 => exact h3.elim
      | [.scr _, _], hw, h3 => exact h3.elim
  · simp only [hc] at h1
    exact h1.elim
end
end DV

set_option Elab.async false
set_option linter.all false
set_option maxRecDepth 100000
set_option maxHeartbeats 1000000
/-! DV29: places as targets. -/
namespace DV
open PySem L2 PySem.Spec PyProof.Rows
variable {G : Cfg}
def putL (o : Op) (k d : D) : M Unit := fun env => match getC env o, k with
  | some (.lst xs), .int i => match ixN xs.length i with
    | some j => .ok () (putC env o (.lst (xs.set j d)))
    | none => .fail
  | _, _ => .fail
def stSub (mo mi : M R) : Tg := fun d env => match bnd (opd mo) (fun o => bnd (frz mi) fun k => putL o k d) env with
  | .ok _ e => some e
  | _ => none
theorem jg_sub {X : Cx} {pin : Nat → Prop} {E : WX} {o i : Expr} {pos : Pos} {mo mi : M R} (ho : JE G X E o mo) (hi : JE G X E i mi)
    (ha : ∀ v, assign (.Subscript o i pos) X.env v = (do
      let ov ← holding [v] (eval o X.env)
      let iv ← holding [v, ov] (eval i X.env)
      standAt pos
      holding [v, ov, iv] (setItem ov iv v)
      release [v, ov, iv] []) := by intro _; rfl) : JG G X pin (.Subscript o i pos) (stSub mo mi) := by
  refine pg_weak (pg_sub ho hi set_list ha) fun v σ H Q ⟨B, env, ss, d, S, f, env', he, h⟩ => ?_
  unfold stSub at he
  have h0 : Ok G E σ B H ss (bnd (opd mo) (fun o => bnd (frz mi) fun k => putL o k d) env) fun _ _ B' H' _ _ => Q σ H' := by
    cases hb : bnd (opd mo) (fun o => bnd (frz mi) fun k => putL o k d) env with
    | ok u e =>
      rw [hb] at he
      cases he
      exact fun B' H' ss' N st kp S' _ => h σ B' H' ss' st (kp.weak fun _ _ => trivial) (Pin.refl _ _) S'
    | fail => rw [hb] at he; cases he
    | exc x e => rw [hb] at he; cases he
  refine opd_run S h0 fun oo env1 x B1 H1 ss1 st1 kp1 S1 O1 h1 => ?_
  refine frz_run S1 h1 fun k env2 y B2 H2 ss2 st2 kp2 S2 fk h2 => ?_
  have O2 : OpRep G σ B2 H2 ss2 x oo := OpRep.step st2.eb kp2 O1
  have fd : Fr G B2 v d := (f.mono st1.eb).mono st2.eb
  unfold putL at h2
  cases hg : getC env2 oo with
  | none => rw [hg] at h2; exact h2.elim
  | some z =>
    rw [hg] at h2
    cases z with
    | lst xs =>
      cases k with
      | int i =>
        simp only at h2
        cases hx : ixN xs.length i with
        | none => rw [hx] at h2; exact h2.elim
        | some j =>
          rw [hx] at h2
          obtain ⟨p, rfl, hf, hp, hw⟩ := cell_at S2 O2 hg
          obtain ⟨_, hb, vs, hH, hl⟩ := hf
          cases fk
          obtain ⟨S', st'⟩ := hw (.lst (xs.set j d)) (.lst (vs.set j v)) ⟨rfl, hb, _, upd_same, hl.set fd j⟩
          exact ⟨p, vs, i, j, rfl, rfl, hH, by rw [hl.length]; exact hx, h2 B2 _ ss2 [] st' (Kp.refl _ _) S' (by simp)⟩
      | _ => exact h2.elim
    | _ => exact h2.elim
end DV

set_option Elab.async false
set_option linter.all false
set_option maxRecDepth 100000
set_option maxHeartbeats 1000000
/-! DV30: sorted of a tuple of numbers. -/
namespace DV
open PySem PySem.Spec PyProof.Rows SrtO
section
variable {prog : Program} {w : World} {A : Around} {E : Value → Shared → Prop} {s : Shared}
/-- sorted(t), t a tuple of numbers: a new list -/
theorem sorted_tup {l : Addr} {vs : List Value} {ns : List Int} {Q : Value → Shared → Prop} (hl : IsTup s.heap l vs.toArray) (hi : IntsAre vs ns) (hz : vs.length ≤ sizeLine)
    (h : ∀ (h1 h' : Heap) (p : Addr) (out : List Value) (ep : Nat) (ns' : List Int), (∀ b o, s.heap.get? b = some o → h1.get? b = some o) → (∀ b o, h1.get? b = some o → h'.get? b = some o) → h1.objs.size ≤ p → h'.get? p = some { cls := .type "list", data := .seq out.toArray ep } → IntsAre out ns' → ns'.Perm ns → ns'.Pairwise (· ≤ ·) → Q (.ref p) { s with heap := h' }) :
    wpAny (model prog w) A (call (.builtin "sorted") [.ref l]) Q E s := by
  obtain ⟨o, ho, hc, n, hd⟩ := hl
  refine Calls.call_function_entry kind_sorted plain_sorted entry_sorted (args_sorted1 _) (by
    unfold Builtin.«sorted»
    refine wpAny_bind (m := checkCount "sorted" 1 1 _) (wpAny_pure (wpAny_bind (wpAny_collect_seq l (.inr rfl) ho hc hd (fun h1 hk => ?_) (by simpa using hz))))
    refine wpAny_bind (wpAny_newList (?_ : _) (by simpa using hz))
    have hO : (h1.push (seqObj "list" vs.toArray 0)).get? h1.objs.size = some (seqObj "list" vs.toArray 0) := Heap.get?_push_size _ rfl
    have old : ∀ b o, h1.get? b = some o → ∀ out : List Value, (sortedHeap (h1.push (seqObj "list" vs.toArray 0)) h1.objs.size vs out.toArray).get? b = some o := fun b o q out => by
      have hlt : b < h1.objs.size := Heap.lt_size q
      rw [sortedHeap_old (Nat.ne_of_lt hlt) (by rw [size_push']; exact Nat.lt_succ_of_lt hlt)]
      exact Heap.get?_push_of_some _ q
    refine wpAny_bind (wpAny_holding (wpAny_call_entry (s := { s with heap := h1.push (seqObj "list" vs.toArray 0) }) slot_list_sort ⟨_, hO, rfl⟩ entry_list_sort (list_sort_ord swo_int hO hz (fun h2 => ints_sortable hi h2) fun out c1 c2 => ⟨_, rfl, ?_⟩) (args_list_sort _)))
    obtain ⟨k1, k2, k3⟩ := ints_out hi c1 c2
    obtain ⟨ep, he⟩ := sortedHeap_at (vs := vs) (out := out.toArray) hO
    exact wpAny_pure ⟨_, rfl, h h1 _ h1.objs.size out ep _ hk (fun b o q => old b o q out) (Nat.le_refl _) he k1 k2 k3⟩)
end
end DV

set_option Elab.async false
set_option linter.all false
set_option maxRecDepth 100000
set_option maxHeartbeats 1000000
/-! DV31: sorted, sum, max, min of numbers. -/
namespace DV
open PySem L2 PySem.Spec PyProof.Rows
variable {G : Cfg}
def insI (a : Int) : List Int → List Int
  | [] => [a]
  | b :: r => if a ≤ b then a :: b :: r else b :: insI a r
def sortI : List Int → List Int
  | [] => []
  | a :: r => insI a (sortI r)
theorem insI_perm (a : Int) : ∀ l : List Int, (insI a l).Perm (a :: l)
  | [] => .refl _
  | b :: r => by
    unfold insI
    split
    · exact .refl _
    · exact (List.Perm.cons b (insI_perm a r)).trans (List.Perm.swap a b r)
theorem sortI_perm : ∀ l : List Int, (sortI l).Perm l
  | [] => .refl _
  | a :: r => (insI_perm a _).trans (List.Perm.cons a (sortI_perm r))
theorem insI_sorted (a : Int) : ∀ l : List Int, l.Pairwise (· ≤ ·) → (insI a l).Pairwise (· ≤ ·)
  | [], _ => by simp [insI]
  | b :: r, h => by
    unfold insI
    split
    · rename_i hab
      refine .cons (fun c hc => ?_) h
      rcases List.mem_cons.mp hc with rfl | hc
      · exact hab
      · exact Int.le_trans hab (List.rel_of_pairwise_cons h hc)
    · rename_i hab
      refine .cons (fun c hc => ?_) (insI_sorted a r h.of_cons)
      rcases List.mem_cons.mp ((insI_perm a r).mem_iff.mp hc) with rfl | hc
      · omega
      · exact List.rel_of_pairwise_cons h hc
theorem sortI_sorted : ∀ l : List Int, (sortI l).Pairwise (· ≤ ·)
  | [] => .nil
  | a :: r => insI_sorted a _ (sortI_sorted r)
theorem sorted_eq : ∀ {a b : List Int}, a.Perm b → a.Pairwise (· ≤ ·) → b.Pairwise (· ≤ ·) → a = b
  | [], b, h, _, _ => (List.Perm.nil_eq h)
  | x :: a, [], h, _, _ => absurd h.length_eq (by simp)
  | x :: a, y :: b, h, ha, hb => by
    have h1 : x ∈ y :: b := h.mem_iff.mp List.mem_cons_self
    have h2 : y ∈ x :: a := h.mem_iff.mpr List.mem_cons_self
    have e : x = y := by
      rcases List.mem_cons.mp h1 with e | h1
      · exact e
      · rcases List.mem_cons.mp h2 with e | h2
        · exact e.symm
        · have p := List.rel_of_pairwise_cons hb h1
          have q := List.rel_of_pairwise_cons ha h2
          omega
    subst e
    rw [sorted_eq (List.Perm.cons_inv h) ha.of_cons hb.of_cons]
def rSortT (K : PySem.W.Frag) : List V → Hp → VK → Prop := fun vs H Q => ∃ (a : Addr) (ns : List Int), vs = [V.ref a] ∧ SqT K H a (ns.map V.int) ∧ ns.length < 100000 ∧
  ∀ (ns' : List Int) (p : Addr), ns'.Perm ns → ns'.Pairwise (· ≤ ·) → H p = none → Q (.ref p) (upd H p (.lst (ns'.map V.int)))
theorem call_sortT {X : Cx} : CallR X (.builtin "sorted") (rSortT X.K) := by
  intro pins s σ H vs us Q I r h
  obtain ⟨a, ns, rfl, hs, hz, q⟩ := h
  obtain ⟨its, rv, hl, hz2⟩ := I.tuple hs
  rw [Vals.ref1 r]
  refine sorted_tup hl rv.ints (by rw [← rv.length]; exact hz2) fun h1 h' p out ep ns' k1 k2 hp ho hi hpm hso => ?_
  have I1 : Inv X pins σ H { s with heap := h1 } := I.kept (t' := s.toks) k1
  have hlen : (ns'.map V.int).length ≤ sizeLine := by
    rw [List.length_map, hpm.length_eq]
    exact lim_le hz
  have I2 : Inv X pins σ (upd H p (.lst (ns'.map V.int))) { s with heap := h' } := I1.laid (t' := s.toks) k2 hp (show ObjOk X.prog X.w _ _ _ (.lst (ns'.map V.int)) from ⟨hlen, out, ep, vals_of_ints hi, ho⟩)
  exact ⟨.ref p, _, I2, rfl, q _ _ hpm hso (I1.hok.fresh hp)⟩
def rSortA (K : PySem.W.Frag) : List V → Hp → VK → Prop := fun vs H Q => rSortedI K vs H Q ∨ rSortT K vs H Q
theorem call_sortA {X : Cx} : CallR X (.builtin "sorted") (rSortA X.K) := fun pins s σ H vs us Q I r h => h.elim (cr_sortedI pins s σ H vs us Q I r) (call_sortT pins s σ H vs us Q I r)
def gSort : List D → Option R
  | [x] => (seqOf x).bind fun xs => (intsOf xs).bind fun ns => if ns.length < 100000 then some (.lst ((sortI ns).map .int)) else none
  | _ => none
theorem rd_sort : RdV G (rSortA G.K) gSort := by
  intro B H vs ds q e hv hg Q k
  unfold gSort at hg
  split at hg
  · rename_i x
    rw [Option.bind_eq_some_iff] at hg
    obtain ⟨xs, hx, hg⟩ := hg
    rw [Option.bind_eq_some_iff] at hg
    obtain ⟨ns, hn, hg⟩ := hg
    split at hg
    · rename_i hl
      cases hg
      obtain ⟨v, rfl, h1⟩ := vwl1 hv
      obtain ⟨p, us, rfl, hs, l⟩ := vw_seqOf e h1 hx
      have := frL_intsOf l hn
      subst this
      have fin : ∀ (ns' : List Int) (p : Addr), ns'.Perm ns → ns'.Pairwise (· ≤ ·) → H p = none → Q (.ref p) (upd H p (.lst (ns'.map V.int))) := fun ns' p hp hs hn => by
        rw [sorted_eq (hp.trans (sortI_perm ns).symm) hs (sortI_sorted ns)]
        exact Out.lst e (frL_ints _) hn k
      rcases hs with hs | hs
      · exact .inl ⟨p, ns, rfl, hs, fin⟩
      · exact .inr ⟨p, ns, rfl, hs, hl, fin⟩
    · cases hg
  · cases hg
def lintsOf : D → Option (List Int)
  | .lst xs => intsOf xs
  | _ => none
theorem vw_lints {B H : Hp} {v : V} {d : D} {ns : List Int} (e : Ex B H) (h : Vw G B H v d) (hn : lintsOf d = some ns) : ∃ p, v = .ref p ∧ SqL G.K H p (ns.map V.int) := by
  cases d with
  | lst xs =>
    obtain ⟨p, us, rfl, hp, l⟩ := vw_lst e h
    have := frL_intsOf l hn
    subst this
    exact ⟨p, rfl, SqL.of hp⟩
  | _ => cases hn
def gSum : List D → Option R
  | [x] => (lintsOf x).map fun ns => .d (.int ns.sum)
  | _ => none
theorem rd_sum : RdV G (rSum G.K) gSum := by
  intro B H vs ds q e hv hg Q k
  unfold gSum at hg
  split at hg
  · rw [Option.map_eq_some_iff] at hg
    obtain ⟨ns, hn, rfl⟩ := hg
    obtain ⟨v, rfl, h1⟩ := vwl1 hv
    obtain ⟨p, rfl, hp⟩ := vw_lints e h1 hn
    exact ⟨p, ns, rfl, hp, Out.int e k⟩
  · cases hg
def maxI : List Int → Option Int
  | [] => none
  | a :: r => match maxI r with
    | none => some a
    | some b => some (if a < b then b else a)
def minI : List Int → Option Int
  | [] => none
  | a :: r => match minI r with
    | none => some a
    | some b => some (if b < a then b else a)
theorem maxI_ok : ∀ {l : List Int} {m : Int}, maxI l = some m → m ∈ l ∧ ∀ y ∈ l, y ≤ m
  | [], m, h => by cases h
  | a :: r, m, h => by
    unfold maxI at h
    cases hr : maxI r with
    | none =>
      rw [hr] at h
      cases h
      have : r = [] := by
        cases r with
        | nil => rfl
        | cons b r => unfold maxI at hr; split at hr <;> cases hr
      subst this
      exact ⟨List.mem_cons_self, fun y hy => by simp at hy; omega⟩
    | some b =>
      rw [hr] at h
      cases h
      obtain ⟨h1, h2⟩ := maxI_ok hr
      by_cases hab : a < b
      · rw [if_pos hab]
        exact ⟨List.mem_cons_of_mem _ h1, fun y hy => by rcases List.mem_cons.mp hy with rfl | hy; omega; exact h2 y hy⟩
      · rw [if_neg hab]
        exact ⟨List.mem_cons_self, fun y hy => by rcases List.mem_cons.mp hy with rfl | hy; omega; have := h2 y hy; omega⟩
theorem minI_ok : ∀ {l : List Int} {m : Int}, minI l = some m → m ∈ l ∧ ∀ y ∈ l, m ≤ y
  | [], m, h => by cases h
  | a :: r, m, h => by
    unfold minI at h
    cases hr : minI r with
    | none =>
      rw [hr] at h
      cases h
      have : r = [] := by
        cases r with
        | nil => rfl
        | cons b r => unfold minI at hr; split at hr <;> cases hr
      subst this
      exact ⟨List.mem_cons_self, fun y hy => by simp at hy; omega⟩
    | some b =>
      rw [hr] at h
      cases h
      obtain ⟨h1, h2⟩ := minI_ok hr
      by_cases hab : b < a
      · rw [if_pos hab]
        exact ⟨List.mem_cons_of_mem _ h1, fun y hy => by rcases List.mem_cons.mp hy with rfl | hy; omega; exact h2 y hy⟩
      · rw [if_neg hab]
        exact ⟨List.mem_cons_self, fun y hy => by rcases List.mem_cons.mp hy with rfl | hy; omega; have := h2 y hy; omega⟩
def gMax1 : List D → Option R
  | [x] => (lintsOf x).bind fun ns => (maxI ns).map fun m => .d (.int m)
  | _ => none
def gMin1 : List D → Option R
  | [x] => (lintsOf x).bind fun ns => (minI ns).map fun m => .d (.int m)
  | _ => none
theorem rd_max1 : RdV G (rMax G.K) gMax1 := by
  intro B H vs ds q e hv hg Q k
  unfold gMax1 at hg
  split at hg
  · rw [Option.bind_eq_some_iff] at hg
    obtain ⟨ns, hn, hg⟩ := hg
    rw [Option.map_eq_some_iff] at hg
    obtain ⟨m, hm, rfl⟩ := hg
    obtain ⟨v, rfl, h1⟩ := vwl1 hv
    obtain ⟨p, rfl, hp⟩ := vw_lints e h1 hn
    obtain ⟨m1, m2⟩ := maxI_ok hm
    refine ⟨p, ns, rfl, hp, List.length_pos_of_mem m1, fun y hy hle => ?_⟩
    have : y = m := by have := hle m m1; have := m2 y hy; omega
    subst this
    exact Out.int e k
  · cases hg
theorem rd_min1 : RdV G (rMin G.K) gMin1 := by
  intro B H vs ds q e hv hg Q k
  unfold gMin1 at hg
  split at hg
  · rw [Option.bind_eq_some_iff] at hg
    obtain ⟨ns, hn, hg⟩ := hg
    rw [Option.map_eq_some_iff] at hg
    obtain ⟨m, hm, rfl⟩ := hg
    obtain ⟨v, rfl, h1⟩ := vwl1 hv
    obtain ⟨p, rfl, hp⟩ := vw_lints e h1 hn
    obtain ⟨m1, m2⟩ := minI_ok hm
    refine ⟨p, ns, rfl, hp, List.length_pos_of_mem m1, fun y hy hle => ?_⟩
    have : y = m := by have := hle m m1; have := m2 y hy; omega
    subst this
    exact Out.int e k
  · cases hg
end DV

set_option Elab.async false
set_option linter.all false
set_option maxRecDepth 100000
set_option maxHeartbeats 1000000
/-! DV32: [::-1], [::2], fields stored, tuples of the module, either of two ways. -/
namespace DV
open PySem L2 PySem.Spec PyProof.Rows
variable {G : Cfg}
/-! ### slices with a step -/
def tStepA (K : PySem.W.Frag) (k : Int) (f : ∀ {α : Type}, List α → List α) (te : TE) : TE := fun σ H Q => te σ H fun x H1 => (∃ z : Str, x = .str z ∧ z.length ≤ sizeLine ∧ Q (.str ⟨(f z.cps.toList).toArray⟩) H1) ∨ ∃ a xs, x = .ref a ∧ SqL K H1 a xs ∧ ∀ p, H1 p = none → Q (.ref p) (upd H1 p (.lst (f xs)))
theorem pick_rev (z : Str) : ((Builtin.Str.strSliceIndices none none (-1) z.length).filterMap (z.cps[·]?)) = z.cps.toList.reverse := by
  show ((sliceRange ((z.length : Int) - 1) (-1) (-1)).filterMap (z.cps[·]?)) = _
  rw [PySem.W.krv_sliceRange, PySem.W.krv_range, List.filterMap_reverse]
  exact congrArg List.reverse (PySem.W.krv_all z.cps)
theorem pe_rev {X : Cx} {e : Expr} {te : TE} {k : Nat} {p1 p2 p3 pos : Pos} (he : PE X e te) : PE X (.Subscript e (.Slice none none (some (.UnaryOp .USub (.Constant (.int 1) k p1) p2)) p3) pos) (tStepA X.K (-1) List.reverse te) := by
  refine ⟨fun pins s σ H Q I h => ?_⟩
  refine Subscript_ (thn (he.run pins s σ H _ I h) fun v s1 ⟨x, H1, I1, r1, q1⟩ => ?_)
  have hst : PO X (some (.UnaryOp .USub (.Constant (.int 1) k p1) p2)) (tPart (tUn (rU fun i => .int (-i)) (tC (.int 1)))) := po_some (pe_un un_neg pe_int)
  refine wpAny_Slice (thn (po_none.run pins s1 σ H1 (fun o H2 => o = none ∧ H2 = H1) I1 ⟨rfl, rfl⟩) fun vl s2 ⟨l, H2, I2, pl, el, e2⟩ => ?_)
  subst el e2
  refine thn (po_none.run pins s2 σ H2 (fun o H3 => o = none ∧ H3 = H2) I2 ⟨rfl, rfl⟩) fun vu s3 ⟨u, H3, I3, pu, eu, e3⟩ => ?_
  subst eu e3
  refine thn (hst.run pins s3 σ H3 (fun o H4 => o = some (-1) ∧ H4 = H3) I3 ⟨1, rfl, -1, rfl, rfl, rfl⟩) fun vs s4 ⟨o, H4, I4, ps, eo, e4⟩ => ?_
  subst eo e4
  have I5 : Inv X pins σ H4 { s4 with heap := s4.heap.push { cls := .type "slice", data := .fields #[vl, vu, vs] } } := I4.kept (t' := s4.toks) fun b ob q => Heap.get?_push_of_some _ q
  rcases q1 with ⟨z, ex, hz, q⟩ | ⟨a, xs, ex, hx, q⟩
  · subst ex
    obtain ⟨t, rfl⟩ := r1
    obtain ⟨l, rfl, hl⟩ := IsPart.raw pl
    obtain ⟨u, rfl, hu⟩ := IsPart.raw pu
    obtain ⟨w, rfl, hw⟩ := IsPart.raw ps
    show wpAny (model X.prog X.w) X.A (subscriptTail e (.Slice none none (some (.UnaryOp .USub (.Constant (.int 1) k p1) p2)) p3) (.str z t) (.ref s4.heap.objs.size)) (EP X pins σ Q) X.xe _
    refine tail_any (ops := [.ref s4.heap.objs.size, .str z t]) (typeIs_str _ _ _) F.slot_str_getitem.lookup ?_ (by with_unfolding_all rfl)
    have hw1 : (w.map (·.1)).getD 1 = -1 := by rw [hw]; rfl
    refine wpAny_getItem_str_slice (l := l) (u := u) (st := w) ⟨_, Heap.get?_push_size _ rfl, rfl, rfl⟩ (by rw [hw1]; rfl) ?_
    have hl' : l.map (·.1) = none := hl
    have hu' : u.map (·.1) = none := hu
    have hp : (slicePicked z l u w).filterMap (z.cps[·]?) = z.cps.toList.reverse := by
      rw [← pick_rev]
      unfold slicePicked
      rw [hl', hu', hw1]
    unfold sliceMade
    rw [hw1, hp, if_neg (by simp)]
    exact ⟨by simpa [Str.length] using hz, .str _, H4, I5.tok _, ⟨_, rfl⟩, q⟩
  · subst ex
    cases r1
    obtain ⟨its, r, ht, hz⟩ := I5.list hx
    have hlen := r.length
    show wpAny (model X.prog X.w) X.A (subscriptTail e (.Slice none none (some (.UnaryOp .USub (.Constant (.int 1) k p1) p2)) p3) (.ref a) (.ref s4.heap.objs.size)) (EP X pins σ Q) X.xe _
    refine tail_any (ops := [.ref a, .ref s4.heap.objs.size]) ht.isList.typeIs (PySem.slot_list_getitem.lookup) ?_ (by with_unfolding_all rfl)
    refine wpAny_getItem_list_slice ht.isList (Heap.IsSliceOf.new _ vl vu vs) pl pu ps (by decide) ?_ (by rw [List.size_toArray]; omega)
    rw [PySem.W.krv_pick]
    refine ⟨.ref _, _, I5.laid (t' := s4.toks) (o := .lst xs.reverse) (fun b ob q => Heap.get?_push_of_some _ q) (Nat.le_refl _) ?_, rfl, q _ (I5.hok.fresh (Nat.le_refl _))⟩
    exact ⟨by rw [List.length_reverse]; exact hz, _, 0, r.reverse, Heap.get?_push_size _ rfl⟩
def gRev : List D → Option R
  | [.str s] => if s.length < 100000 then some (.d (.str s.reverse)) else none
  | [.lst xs] => some (.lst xs.reverse)
  | _ => none
theorem je_rev {X : Cx} {E : WX} {a : Expr} {ma : M R} {k : Nat} {p1 p2 p3 pos : Pos} (hK : X.K = G.K) (ha : JE G X E a ma) : JE G X E (.Subscript a (.Slice none none (some (.UnaryOp .USub (.Constant (.int 1) k p1) p2)) p3) pos) (opM gRev [ma]) := by
  refine pe_weak (pe_rev ha) fun σ H Q ⟨B, env, ss, S, h⟩ => ?_
  unfold opM args args at h
  simp only [bnd_assoc, bnd_ret] at h
  refine opd_run S h fun o env1 v B1 H1 ss1 st kp S1 O1 h1 => ?_
  have key : RdV G (fun vs H Q => ∃ x, vs = [x] ∧ ((∃ z : Str, x = .str z ∧ z.length ≤ sizeLine ∧ Q (.str ⟨z.cps.toList.reverse.toArray⟩) H) ∨ ∃ a xs, x = .ref a ∧ SqL G.K H a xs ∧ ∀ p, H p = none → Q (.ref p) (upd H p (.lst xs.reverse)))) gRev := by
    intro B H vs ds q e hv hg Q k
    unfold gRev at hg
    split at hg
    · rename_i s
      split at hg
      · rename_i hl
        cases hg
        obtain ⟨v, rfl, h1⟩ := vwl1 hv
        exact ⟨_, rfl, .inl ⟨_, vw_str h1, lim_le (by rw [str_len]; exact hl), Out.str e k⟩⟩
      · cases hg
    · cases hg
      obtain ⟨v, rfl, h1⟩ := vwl1 hv
      obtain ⟨p, us, rfl, hp, l⟩ := vw_lst e h1
      exact ⟨_, rfl, .inr ⟨p, us, rfl, SqL.of hp, fun r hr => Out.lst e l.reverse hr k⟩⟩
    · cases hg
  obtain ⟨x, e, q⟩ := fin_rd key S1 (.cons O1 .nil) h1
  cases e
  rw [hK]; exact q
/-! ### fields -/
def noFld (m : M R) : M R := bnd m fun r => match r with
  | .fld _ _ => failM
  | r => ret r
theorem je_noFld {X : Cx} {E : WX} {e : Expr} {m : M R} (h : JE G X E e m) : JE G X E e (noFld m) := by
  refine pe_weak h fun σ H Q ⟨B, env, ss, S, h⟩ => ⟨B, env, ss, S, ?_⟩
  unfold noFld bnd at h
  cases hm : m env with
  | fail => rw [hm] at h; exact h
  | exc x e => rw [hm] at h; exact h
  | ok r e =>
    rw [hm] at h
    cases r with
    | fld i j => exact h.elim
    | _ => exact h
theorem noFld_pl {m : M R} : ∀ env env' r, noFld m env = .ok r env' → ∀ i j, r ≠ .fld i j := by
  intro env env' r h i j hr
  subst hr
  unfold noFld bnd at h
  cases hm : m env with
  | fail => rw [hm] at h; cases h
  | exc x e => rw [hm] at h; cases h
  | ok r e =>
    rw [hm] at h
    cases r <;> cases h
def stFS (c j : Nat) (mo mv : M R) : M Fl := stFM c j mo (noFld mv)
section
variable {X : Cx} {pin : Nat → Prop} {E : WX} {e value : Expr} {pos pos' : Pos} {f : Str}
theorem js_fldS (c j : Nat) {mo mv : M R} (ho : JE G X E e mo) (hv : JE G X E value mv) (hK : X.K = G.K) (cl : Cls G.K (G.cA c)) (na : NoAttr G.K (G.cA c) f) (hl : (G.lay c)[j]? = some f) (nd : (G.lay c).Nodup) (hsm : (G.lay c).length < 1000)
    (hs : swapsWith value (some (.Attribute e f pos')) pos.line X.env = pure false := by rfl) : JS G X pin E (.Assign [.Attribute e f pos'] value pos) (stFS c j mo mv) :=
  js_fld c j ho (je_noFld hv) hK cl na hl nd hsm noFld_pl hs
end
/-! ### a tuple that the module wrote -/
def TupG (K : PySem.W.Frag) (p : Addr) (vs : List V) : Prop :=
  ∃ (o : Obj) (its : Array Value) (n : Nat), K.lookup p = some o ∧ o.cls = .type "tuple" ∧ o.dict = none ∧ o.data = .seq its n ∧ its.size ≤ sizeLine ∧ Vals vs its.toList
theorem tupG_mk {K : PySem.W.Frag} {p : Addr} {its : Array Value} {n : Nat} {sl : Array (Option Value)} {vs : List V} (h : K.lookup p = some ⟨.type "tuple", none, .seq its n, sl⟩) (hn : its.size ≤ sizeLine) (hv : Vals vs its.toList) : TupG K p vs :=
  ⟨_, its, n, h, rfl, rfl, rfl, hn, hv⟩
theorem je_gtup {X : Cx} {E : WX} {x : Str} {pos : Pos} (ds : List D) {vs : List V} (hK : X.K = G.K) (h : ∃ p, X.mg x = some (.ref p) ∧ TupG G.K p vs) (hf : ∀ B, FrL G B vs ds)
    (hg : Gl X x := by rfl) (hd : (x == ("__debug__" : Str)) = false := by decide) : JE G X E (.Name x pos) (ret (.d (.wtup ds))) := by
  obtain ⟨p, hm, ht⟩ := h
  exact je_glob (v := .ref p) hm rfl (fun B => .wtup (.inl ht) (hf B)) hg hd
/-! ### either of two ways -/
def altM {α : Type} (m m' : M α) : M α := fun env => match m env with
  | .fail => m' env
  | r => r
theorem je_alt {X : Cx} {E : WX} {e : Expr} {m m' : M R} (h : JE G X E e m) (h' : JE G X E e m') : JE G X E e (altM m m') := by
  refine ⟨fun pins s σ H Q I ⟨B, env, ss, S, q⟩ => ?_⟩
  unfold altM at q
  cases hm : m env with
  | fail => rw [hm] at q; exact h'.run pins s σ H Q I ⟨B, env, ss, S, q⟩
  | ok a e => rw [hm] at q; exact h.run pins s σ H Q I ⟨B, env, ss, S, by rw [hm]; exact q⟩
  | exc x e => rw [hm] at q; exact h.run pins s σ H Q I ⟨B, env, ss, S, by rw [hm]; exact q⟩
/-! ### what a suite returns -/
section
variable {X : Cx} {i : Option Nat} {es : List Expr} {pos : Pos}
theorem jv_str {x j} (l : List Nat) (hx : x = ⟨l.toArray⟩ := by decide +kernel) : JV G X i (.Constant (.str x) j pos) (fun _ => some (.str l)) :=
  jv_c (v := .str ⟨l.toArray⟩) (fun _ _ _ => by subst hx; exact pe_str) fun _ => .str l
def lstX (gs : List (Exn → Option D)) (x : Exn) : Option D := (allX gs x).map D.lst
theorem jv_lst {gs : List (Exn → Option D)} (h : JVs G X i es (allX gs)) (hn : gs.length ≤ 1000 := by decide) : JV G X i (.List es pos) (lstX gs) := fun a oe cls d pn hz hf => by
  refine pe_weak (pe_lst (h a oe cls d pn hz hf)) fun σ H Q ⟨B, x, y, s, hg, q⟩ => ?_
  unfold lstX at hg
  rw [Option.map_eq_some_iff] at hg
  obtain ⟨ys, h2, rfl⟩ := hg
  refine ⟨B, x, ys, s, h2, fun vs B1 H1 g1 f1 => ⟨?_, fun p hp => ?_⟩⟩
  · rw [f1.length, allX_len h2]; exact Nat.le_of_lt (lim_lt (by omega))
  · have bp : B1 p = none := g1.ex.back hp
    refine q _ (upd B1 p (.lst vs)) (upd H1 p (.lst vs)) (g1.trans' ⟨Ex.new bp, Ex.new hp, fun b o h => ?_, fun b o h h0 => ?_⟩) (.lst upd_same (f1.mono (Ex.new bp)))
    · by_cases hb : b = p
      · subst hb; rw [upd_same] at h ⊢; exact h
      · rw [upd_ne hb] at h ⊢; exact g1.ex _ _ h
    · rw [upd_ne (fun z => by rw [z, hp] at h; cases h)]; exact h0
end
end DV

set_option Elab.async false
set_option linter.all false
set_option maxRecDepth 100000
set_option maxHeartbeats 1000000
/-! DV33: enumerate over a tuple, over a text. -/
namespace DV
open PySem L2 PySem.Spec PyProof.Rows
variable {G : Cfg}
theorem meets_enum1 {v : Value} {o : Obj} {H : Heap → Prop} (B : Begins v o H) :
    Meets (Builtin.«enumerate.__new__» ⟨[.type "enumerate", v], []⟩) (fun _ R s => H s.heap ∧
      R (.ok (.ret (.ref (s.heap.push o).objs.size))) { s with heap := (s.heap.push o).push { cls := .type "enumerate", data := .fields #[.none, .bool false, .ref s.heap.objs.size, rawInt 0, .none, .none] } }) :=
  .of_wp fun prog w A R s h => by
    obtain ⟨hp, g, d, tk, os⟩ := s; obtain ⟨h1, h⟩ := h
    have hsub := sub_enumerate
    have q1 : ∀ {A' : Around} {E : Value → Shared → Prop} {Q : Value → Shared → Prop}, Q (.ref hp.objs.size) ⟨hp.push o, g, d, tk, os⟩ → wpAny (model prog w) A' (pyIter v) Q E ⟨hp, g, d, tk, os⟩ :=
      fun q => B.iter prog w _ _ ⟨hp, g, d, tk, os⟩ _ h1 q
    wp_walk using q1
    refine wpAny_stack_any fun st => wpAny_pure ?_
    split
    · rename_i c _ _ _ _ _
      cases (c == Value.type "enumerate")
      · wp_walk using q1
        exact ⟨_, rfl, h⟩
      · wp_walk using q1
        exact ⟨_, rfl, h⟩
    · wp_walk using q1
      exact ⟨_, rfl, h⟩
theorem enum1_begins {prog : Program} {w : World} {A : Around} {E : Value → Shared → Prop} {s : Shared} {v : Value} {o : Obj} {H : Heap → Prop} {Q : Value → Shared → Prop} (B : Begins v o H) (h1 : H s.heap)
    (h : ∀ h', IsEnum h' (s.heap.objs.size + 1) s.heap.objs.size 0 .none → h'.get? s.heap.objs.size = some o → h'.objs.size = s.heap.objs.size + 2 →
      (∀ b o, s.heap.get? b = some o → h'.get? b = some o) → Q (.ref (s.heap.objs.size + 1)) { s with heap := h' }) :
    wpAny (model prog w) A (call (.type "enumerate") [v]) Q E s := by
  refine callType_new F.called_enumerate (by decide) (F.typeCall_enumerate_1 _) (F.newCall_enumerate_1 _) (fun obj => F.args_object_init_2 obj _) F.entry_enumerate_new
    (meets_enum1 B) ⟨h1, ?_⟩
  have hz : (s.heap.push o).objs.size = s.heap.objs.size + 1 := Heap.size_push ..
  show _ ∧ _
  rw [hz]
  have he : IsEnum ((s.heap.push o).push { cls := .type "enumerate", data := .fields #[.none, .bool false, .ref s.heap.objs.size, rawInt 0, .none, .none] }) (s.heap.objs.size + 1) s.heap.objs.size 0 .none := by
    have := Heap.get?_push_size (s.heap.push o) (o := { cls := .type "enumerate", data := .fields #[.none, .bool false, .ref s.heap.objs.size, rawInt 0, .none, .none] }) rfl
    rw [hz] at this; exact this
  refine ⟨⟨_, he, rfl⟩, h _ he (Heap.get?_push_of_some _ (Heap.get?_push_size _ B.free)) (by rw [Heap.size_push, hz]) fun b o x => Heap.get?_push_of_some _ (Heap.get?_push_of_some _ x)⟩
/-- a tuple's items in new pairs -/
def ItEt (K : PySem.W.Frag) (a : Addr) : It :=
  ⟨fun i H => ∃ (xs : List V) (x : V), SqT K H a xs ∧ xs[i]? = some x, fun i H v H' => ∃ T x, v = .ref T ∧ H T = none ∧ H' = upd H T (.tup [.int (i : Nat), x]) ∧ ∀ xs, SqT K H a xs → xs[i]? = some x, fun i H => ∃ xs : List V, SqT K H a xs ∧ xs.length ≤ i⟩
theorem turn_enumT {P : Program} {w : World} {K : PySem.W.Frag} {elts : List Expr} {kk : Nat} {tpos : Pos} (a e it : Addr) :
    Turn P w K (.Tuple elts kk tpos) (ItEt K a) [e, it] e (fun i h => (∃ old, IsEnum h e it ((i : Nat) : Int) old) ∧ h.IsTupleIter it a i ∧ e ≠ it) where
  mem := by simp
  obj := fun i h st b hb => by
    obtain ⟨⟨old, he⟩, ⟨o, ho, hc, hd⟩, _⟩ := st
    have e' : b = e ∨ b = it := by simpa using hb
    rcases e' with z | z
    · rw [z]; exact ⟨_, he, fun v q => nomatch q⟩
    · rw [z]; exact ⟨o, ho, fun v q => by rw [hd] at q; cases q⟩
  keep := fun i h h' st k => let ⟨⟨old, he⟩, hi, hne⟩ := st; ⟨⟨old, k e (by simp) _ he⟩, hi.at fun o q => k it (by simp) o q, hne⟩
  item := by
    intro X hP hw hK hc i pins s σ H E I hf st hg
    subst hP hw hK
    obtain ⟨⟨old, he⟩, hit, hne⟩ := st
    obtain ⟨xs, x, hq, hx⟩ := hg
    obtain ⟨its, rv, p, hz⟩ := I.tuple hq
    obtain ⟨u, hu, ru⟩ := rv.get hx
    have hel : e < s.heap.objs.size := Heap.lt_size he
    have hil : it < s.heap.objs.size := by obtain ⟨_, q, _⟩ := hit; exact Heap.lt_size q
    have hai : a ≠ it := fun z => by
      subst z
      obtain ⟨o1, e1, c1, _⟩ := hit
      obtain ⟨o2, e2, c2, _⟩ := p
      rw [e1] at e2; cases e2; rw [c1] at c2; exact absurd (Value.type.inj c2) (by decide)
    have hae : a ≠ e := fun z => by
      subst z
      obtain ⟨o2, e2, c2, _⟩ := p
      have : s.heap.get? a = _ := he
      rw [this] at e2; cases e2; exact absurd (Value.type.inj c2) (by decide)
    have D := Draws.tuple (prog := X.prog) (w := X.w) (A := X.A.in1) (I.ok.hd hc) it a hai its.toArray
    refine wpAny_pyNext_enum_itemC D he ⟨hit, p⟩ (i := i) (by have := (List.getElem?_eq_some_iff.mp hu).1; simpa using this) hne (by simp [hne, Ne.symm hae]) fun x1 h' tk px ho hst' hT hsz hk => ?_
    have hxu : x1 = u := by
      have : its.toArray[i]? = some u := by simpa using hu
      rw [this] at px; exact (Option.some.inj px).symm
    subst hxu
    refine ⟨_, rfl, wpAny_letOwnedTupleGo_enum (s := { s with heap := h', toks := tk + 1 }) ho fun h'' he' sb => ?_⟩
    have hT2 : h''.get? s.heap.objs.size = some { cls := .type "tuple", data := .seq #[.int i tk, x1] } := (sb.2 _ (Nat.ne_of_gt hel)).trans hT
    have new : ObjOk X.prog X.w (upd H s.heap.objs.size (.tup [.int (i : Nat), x])) h'' s.heap.objs.size (.tup [.int (i : Nat), x]) :=
      ⟨by show 2 ≤ sizeLine; decide, [.int i tk, x1], .cons ⟨_, rfl⟩ (.cons ru .nil), ⟨_, hT2, rfl, _, rfl⟩⟩
    have I1 : Inv X pins σ (upd H s.heap.objs.size (.tup [.int (i : Nat), x])) { s with heap := h'', toks := tk + 1 } :=
      I.turnedNew (ch := [e, it]) (fun b ob hb q => (sb.2 b (fun z => hb (by simp [z]))).trans (hk b ob (fun z => hb (by simp [z])) (fun z => hb (by simp [z])) q)) hf (Nat.le_refl _) new
    refine ⟨.ref s.heap.objs.size, _, I1, rfl, ⟨_, x, rfl, I.hok.fresh (Nat.le_refl _), rfl, fun ys hy => by rw [I.tuple_inj hy hq]; exact hx⟩, ⟨⟨x1, ?_⟩, hst'.1.at fun o q => (sb.2 it (Ne.symm hne)).trans q, hne⟩, fun b hb => ?_⟩
    · have e1 : ((i + 1 : Nat) : Int) = (i : Int) + 1 := by omega
      rw [e1]; exact he'
    · have hb' : b < s.heap.objs.size := by
        have e' : b = e ∨ b = it := by simpa using hb
        rcases e' with z | z
        · rw [z]; exact hel
        · rw [z]; exact hil
      rw [upd_ne (Nat.ne_of_lt hb')]
      exact (hf b hb).1
  done := by
    intro X hP hw hK hc i pins s σ H E I hf st hg
    subst hP hw hK
    obtain ⟨⟨old, he⟩, hit, hne⟩ := st
    obtain ⟨xs, hq, hx⟩ := hg
    obtain ⟨its, rv, p, hz⟩ := I.tuple hq
    have hai : a ≠ it := fun z => by
      subst z
      obtain ⟨o1, e1, c1, _⟩ := hit
      obtain ⟨o2, e2, c2, _⟩ := p
      rw [e1] at e2; cases e2; rw [c1] at c2; exact absurd (Value.type.inj c2) (by decide)
    obtain ⟨f0, f1, f2, f3, f4, f5⟩ := hf it (by simp)
    have hl := rv.length
    have hh : X.A.in1.handled = none := I.ok.hd hc
    have hT : s.TypeIs (.ref e) "enumerate" := ⟨_, he, rfl⟩
    unfold pyNext
    refine wpAny_bind (wpAny_attempt (wpAny_callSpecial?_slot (name := Str.ofString "__next__") hT F.slot_enumerate_next
      (wpAny_call_entry F.slot_enumerate_next hT F.entry_enumerate_next ?_ (F.args_enumerate_next_1 _))))
    show wpAny _ _ (field (.ref e) 2 >>= _) _ _ _
    refine wpAny_bind (wpAny_field he rfl (x := .ref it) rfl ?_)
    refine wpAny_bind (wpAny_nextOf_tuple_end hh hit p (by simp; omega) fun h' ex eb hst => ?_)
    obtain ⟨o, ho, hco⟩ := hst
    refine wpAny_bind (wpAny_isInstance (T := "StopIteration") (b := true) ⟨o, ho, hco⟩ isSubtype_stop ?_)
    refine wpAny_pure ?_
    exact ⟨rfl, I.turned (t' := s.toks) (fun b o hb q => eb b o hb q) f0 f1 f3 f4 f5⟩
  self := fun A i s Q E st h => let ⟨⟨_, he⟩, _⟩ := st; wpAny_pyIter_enum he h
/-- a text's signs in new pairs -/
def ItEs (x : Str) : It :=
  ⟨fun i _ => i < x.cps.size, fun i H v H' => ∃ T c, v = .ref T ∧ H T = none ∧ H' = upd H T (.tup [.int (i : Nat), .str ⟨#[c]⟩]) ∧ x.cps[i]? = some c, fun i _ => x.cps.size ≤ i⟩
theorem turn_enumS {P : Program} {w : World} {K : PySem.W.Frag} {elts : List Expr} {kk : Nat} {tpos : Pos} (x : Str) (t : Tok) (e it : Addr) :
    Turn P w K (.Tuple elts kk tpos) (ItEs x) [e, it] e (fun i h => (∃ old, IsEnum h e it ((i : Nat) : Int) old) ∧ h.IsStrIter it (strIterType x) x t i ∧ e ≠ it) where
  mem := by simp
  obj := fun i h st b hb => by
    obtain ⟨⟨old, he⟩, ⟨o, ho, hc, hd⟩, _⟩ := st
    have e' : b = e ∨ b = it := by simpa using hb
    rcases e' with z | z
    · rw [z]; exact ⟨_, he, fun v q => nomatch q⟩
    · rw [z]; exact ⟨o, ho, fun v q => by rw [hd] at q; cases q⟩
  keep := fun i h h' st k => let ⟨⟨old, he⟩, ⟨o, ho, r⟩, hne⟩ := st; ⟨⟨old, k e (by simp) _ he⟩, ⟨o, k it (by simp) o ho, r⟩, hne⟩
  item := by
    intro X hP hw hK hc i pins s σ H E I hf st hg
    subst hP hw hK
    obtain ⟨⟨old, he⟩, hit, hne⟩ := st
    have hel : e < s.heap.objs.size := Heap.lt_size he
    have hil : it < s.heap.objs.size := by obtain ⟨_, q, _⟩ := hit; exact Heap.lt_size q
    have D := Draws.text (prog := X.prog) (w := X.w) (A := X.A.in1) (I.ok.hd hc) it x t
    refine wpAny_pyNext_enum_itemC D he hit (i := i) hg hne (by simp [hne]) fun x1 h' tk px ho hst' hT hsz hk => ?_
    obtain ⟨c, u, hcx, rfl⟩ := px
    refine ⟨_, rfl, wpAny_letOwnedTupleGo_enum (s := { s with heap := h', toks := tk + 1 }) ho fun h'' he' sb => ?_⟩
    have hT2 : h''.get? s.heap.objs.size = some { cls := .type "tuple", data := .seq #[.int i tk, .str ⟨#[c]⟩ u] } := (sb.2 _ (Nat.ne_of_gt hel)).trans hT
    have new : ObjOk X.prog X.w (upd H s.heap.objs.size (.tup [.int (i : Nat), .str ⟨#[c]⟩])) h'' s.heap.objs.size (.tup [.int (i : Nat), .str ⟨#[c]⟩]) :=
      ⟨by show 2 ≤ sizeLine; decide, [.int i tk, .str ⟨#[c]⟩ u], .cons ⟨_, rfl⟩ (.cons ⟨_, rfl⟩ .nil), ⟨_, hT2, rfl, _, rfl⟩⟩
    have I1 : Inv X pins σ (upd H s.heap.objs.size (.tup [.int (i : Nat), .str ⟨#[c]⟩])) { s with heap := h'', toks := tk + 1 } :=
      I.turnedNew (ch := [e, it]) (fun b ob hb q => (sb.2 b (fun z => hb (by simp [z]))).trans (hk b ob (fun z => hb (by simp [z])) (fun z => hb (by simp [z])) q)) hf (Nat.le_refl _) new
    have hst2 : h''.IsStrIter it (strIterType x) x t (i + 1) := by
      obtain ⟨o, ho', r⟩ := hst'
      exact ⟨o, (sb.2 it (Ne.symm hne)).trans ho', r⟩
    refine ⟨.ref s.heap.objs.size, _, I1, rfl, ⟨_, c, rfl, I.hok.fresh (Nat.le_refl _), rfl, hcx⟩, ⟨⟨.str ⟨#[c]⟩ u, ?_⟩, hst2, hne⟩, fun b hb => ?_⟩
    · have e1 : ((i + 1 : Nat) : Int) = (i : Int) + 1 := by omega
      rw [e1]; exact he'
    · have hb' : b < s.heap.objs.size := by
        have e' : b = e ∨ b = it := by simpa using hb
        rcases e' with z | z
        · rw [z]; exact hel
        · rw [z]; exact hil
      rw [upd_ne (Nat.ne_of_lt hb')]
      exact (hf b hb).1
  done := by
    intro X hP hw hK hc i pins s σ H E I hf st hg
    subst hP hw hK
    obtain ⟨⟨old, he⟩, hit, hne⟩ := st
    have hx : x.cps[i]? = none := Array.getElem?_eq_none hg
    obtain ⟨f0, f1, f2, f3, f4, f5⟩ := hf it (by simp)
    have hh : X.A.in1.handled = none := I.ok.hd hc
    have hT : s.TypeIs (.ref e) "enumerate" := ⟨_, he, rfl⟩
    unfold pyNext
    refine wpAny_bind (wpAny_attempt (wpAny_callSpecial?_slot (name := Str.ofString "__next__") hT F.slot_enumerate_next
      (wpAny_call_entry F.slot_enumerate_next hT F.entry_enumerate_next ?_ (F.args_enumerate_next_1 _))))
    show wpAny _ _ (field (.ref e) 2 >>= _) _ _ _
    refine wpAny_bind (wpAny_field he rfl (x := .ref it) rfl ?_)
    cases ha : x.cps.all (· < 128)
    · have hit' : s.heap.IsStrIter it "str_iterator" x t i := by simpa [strIterType, ha] using hit
      refine wpAny_bind (wpAny_nextOf_wide_end hh hit' hx fun h' ex eb hst => ?_)
      obtain ⟨o, ho, hco⟩ := hst
      refine wpAny_bind (wpAny_isInstance (T := "StopIteration") (b := true) ⟨o, ho, hco⟩ isSubtype_stop ?_)
      refine wpAny_pure ?_
      exact ⟨rfl, I.turned (t' := s.toks) (fun b o hb q => eb b o hb q) f0 f1 f3 f4 f5⟩
    · have hit' : s.heap.IsStrIter it "str_ascii_iterator" x t i := by simpa [strIterType, ha] using hit
      refine wpAny_bind (wpAny_nextOf_ascii_end hh hit' hx fun h' ex eb hst => ?_)
      obtain ⟨o, ho, hco⟩ := hst
      refine wpAny_bind (wpAny_isInstance (T := "StopIteration") (b := true) ⟨o, ho, hco⟩ isSubtype_stop ?_)
      refine wpAny_pure ?_
      exact ⟨rfl, I.turned (t' := s.toks) (fun b o hb q => eb b o hb q) f0 f1 f3 f4 f5⟩
  self := fun A i s Q E st h => let ⟨⟨_, he⟩, _⟩ := st; wpAny_pyIter_enum he h
def iEnumA (K : PySem.W.Frag) (ta : TA) : TI := fun σ H R => ta σ H fun vs H1 => (∃ a xs, vs = [.ref a] ∧ SqL K H1 a xs ∧ R (Ite K a) H1) ∨ (∃ a xs, vs = [.ref a] ∧ SqT K H1 a xs ∧ R (ItEt K a) H1) ∨ ∃ z, vs = [.str z] ∧ R (ItEs z) H1
theorem pi_enumA {X : Cx} {e : Expr} {ta : TA} {p pos tpos : Pos} {elts : List Expr} {kk : Nat} (hg : Gl X "enumerate") (hm : X.mg "enumerate" = none) (ha : PA X [e] ta) (hs : starEach [e] X.env = [(false, eval e X.env)] := by rfl) :
    PI X (.Tuple elts kk tpos) (.Call (.Name "enumerate" p) [e] [] pos) (iEnumA X.K ta) := by
  refine ⟨fun pins s σ H R I h => ?_⟩
  refine Call_ (ld_blt I hg hm boot_enumerate (PyProof.Rows.callWith_type1 (thn (ha.run pos pins s σ H _ I h) fun us s1 ⟨vs, H1, I1, r1, q1⟩ => ?_) hs rfl))
  have fin : ∀ b, b ∈ [s1.heap.objs.size + 1, s1.heap.objs.size] → s1.heap.objs.size ≤ b := fun b hb => by
    have e' : b = s1.heap.objs.size + 1 ∨ b = s1.heap.objs.size := by simpa using hb
    rcases e' with z | z
    · rw [z]; exact Nat.le_add_right _ _
    · rw [z]; exact Nat.le_refl _
  rcases q1 with ⟨a, xs, ex, hq, q⟩ | ⟨a, xs, ex, hq, q⟩ | ⟨z, ex, q⟩
  · subst ex
    obtain ⟨u, rfl, r⟩ := vals1 r1
    cases r
    obtain ⟨its, rv, p', hz⟩ := I1.list hq
    refine call_enumerate_list p'.isList fun h' he hit hsz hk => wpAny_pyIter_enum he ?_
    have I2 : Inv X pins σ H1 { s1 with heap := h' } := I1.kept (t' := s1.toks) hk
    refine ⟨s1.heap.objs.size + 1, [s1.heap.objs.size + 1, s1.heap.objs.size], _, _, H1, rfl, I2, turn_enum a (s1.heap.objs.size + 1) s1.heap.objs.size, ⟨⟨.none, he⟩, hit, Nat.succ_ne_self _⟩, fun b hb => ?_, q⟩
    exact I1.fpOk (fin b hb) (I1.hok.fresh (fin b hb))
  · subst ex
    obtain ⟨u, rfl, r⟩ := vals1 r1
    cases r
    obtain ⟨its, rv, p', hz⟩ := I1.tuple hq
    refine enum1_begins (begins_tuple a its.toArray) p' fun h' he ho hsz hk => wpAny_pyIter_enum he ?_
    have I2 : Inv X pins σ H1 { s1 with heap := h' } := I1.kept (t' := s1.toks) hk
    refine ⟨s1.heap.objs.size + 1, [s1.heap.objs.size + 1, s1.heap.objs.size], _, _, H1, rfl, I2, turn_enumT a (s1.heap.objs.size + 1) s1.heap.objs.size, ⟨⟨.none, he⟩, ⟨_, ho, rfl, rfl⟩, Nat.succ_ne_self _⟩, fun b hb => ?_, q⟩
    exact I1.fpOk (fin b hb) (I1.hok.fresh (fin b hb))
  · subst ex
    obtain ⟨u, rfl, r⟩ := vals1 r1
    obtain ⟨t, rfl⟩ := r
    refine enum1_begins (begins_text z t) trivial fun h' he ho hsz hk => wpAny_pyIter_enum he ?_
    have I2 : Inv X pins σ H1 { s1 with heap := h' } := I1.kept (t' := s1.toks) hk
    refine ⟨s1.heap.objs.size + 1, [s1.heap.objs.size + 1, s1.heap.objs.size], _, _, H1, rfl, I2, turn_enumS z t (s1.heap.objs.size + 1) s1.heap.objs.size, ⟨⟨.none, he⟩, ⟨_, ho, rfl, rfl⟩, Nat.succ_ne_self _⟩, fun b hb => ?_, q⟩
    exact I1.fpOk (fin b hb) (I1.hok.fresh (fin b hb))
/-! ### in mirrors -/
def enD : D → Option (List D)
  | .lst xs => some xs
  | .tup xs => some xs
  | .wtup xs => some xs
  | .str s => some (s.map fun c => .str [c])
  | _ => none
def itEnA (m : M R) : M (List D) := bnd (frz m) fun d => match enD d with
  | some xs => if xs.length < 100000 then ret (enumD 0 xs) else failM
  | none => failM
theorem itOk_enumT {B : Hp} {p : Addr} {vs : List V} {ds : List D} {K : PySem.W.Frag} (hp : ∀ H', Ex B H' → SqT K H' p vs) (l : FrL G B vs ds) : ItOk G B (ItEt K p) (enumD 0 ds) := fun i H' e => by
  have hs : SqT K H' p vs := hp H' e
  refine ⟨fun hi => ?_, fun hi => ?_, fun v H'' hy d hd B' eb e' => ?_⟩
  · rw [enumD_len, ← l.length] at hi
    exact ⟨vs, vs[i], hs, List.getElem?_eq_getElem hi⟩
  · rw [enumD_len, ← l.length] at hi
    exact ⟨vs, hs, hi⟩
  · obtain ⟨T, x, rfl, hT, rfl, hx⟩ := hy
    obtain ⟨y, h1, rfl⟩ := enumD_get 0 ds i d hd
    have hxi := hx vs hs
    obtain ⟨y', h2, f⟩ := l.getV hxi
    rw [h1] at h2; cases h2
    rw [Nat.zero_add]
    obtain ⟨g, f2⟩ := new_tup (vs := [.int (i : Nat), x]) (ds := [.int ((i : Nat) : Int), y]) e' (.cons (.int _) (.cons (f.mono eb) .nil)) hT
    exact ⟨_, g, f2⟩
theorem itOk_enumS {B : Hp} {s : List Nat} : ItOk G B (ItEs ⟨s.toArray⟩) (enumD 0 (s.map fun c => .str [c])) := fun i H' e => by
  refine ⟨fun hi => ?_, fun hi => ?_, fun v H'' hy d hd B' eb e' => ?_⟩
  · rw [enumD_len, List.length_map] at hi
    show i < s.toArray.size
    rw [List.size_toArray]; exact hi
  · rw [enumD_len, List.length_map] at hi
    show s.toArray.size ≤ i
    rw [List.size_toArray]; exact hi
  · obtain ⟨T, c, rfl, hT, rfl, hx⟩ := hy
    obtain ⟨y, h1, rfl⟩ := enumD_get 0 _ i d hd
    have hxi : s[i]? = some c := by simpa using hx
    rw [List.getElem?_map, hxi] at h1
    cases h1
    rw [Nat.zero_add]
    obtain ⟨g, f2⟩ := new_tup (vs := [.int (i : Nat), .str ⟨#[c]⟩]) (ds := [.int ((i : Nat) : Int), .str [c]]) e' (.cons (.int _) (.cons (.str [c]) .nil)) hT
    exact ⟨_, g, f2⟩
section
variable {X : Cx} {pin : Nat → Prop} {E : WX} {e : Expr} {pos : Pos} {elts : List Expr} {kk : Nat} {tpos : Pos}
theorem ji_enumA {m : M R} {p : Pos} (hK : X.K = G.K) (hm : X.mg "enumerate" = none) (he : JE G X E e m) (hg : Gl X "enumerate" := by rfl) (hs : starEach [e] X.env = [(false, eval e X.env)] := by rfl) : JI G X E (.Tuple elts kk tpos) (.Call (.Name "enumerate" p) [e] [] pos) (itEnA m) := by
  refine pi_weak (pi_enumA hg hm (pa_cons he pa_nil hs) hs) fun σ H R ⟨B, env, ss, S, h⟩ => ?_
  unfold itEnA at h
  cases hd : frz m env with
  | fail => unfold bnd at h; rw [hd] at h; exact h.elim
  | exc x e =>
    have h' : Ok G E σ B H ss (bnd (frz m) (fun d => ret d) env) fun _ _ _ _ _ _ => True := by
      unfold bnd at h ⊢
      rw [hd] at h ⊢
      exact h
    unfold frz at h' hd
    rw [bnd_assoc] at h'
    refine tE_run S h' fun r env1 v s B1 H1 ss1 hm st kp S1 R1 hn _ => ?_
    unfold bnd at hd
    rw [hm] at hd
    exact absurd hd frzR_exc
  | ok d env1 =>
    unfold bnd at h
    rw [hd] at h
    simp only at h
    cases hx : enD d with
    | none => rw [hx] at h; exact h.elim
    | some xs =>
      rw [hx] at h
      simp only at h
      split at h
      · refine frz_ok S hd fun v B1 H1 ss1 st kp S1 f => ?_
        cases d with
        | lst ys =>
          cases hx
          cases f with
          | lst hp l => exact .inl ⟨_, _, rfl, SqL.of (S1.ex _ _ hp), h B1 H1 ss1 [] st kp S1 (by simp) _ (itOk_enum hp l)⟩
        | tup ys =>
          cases hx
          cases f with
          | tup hp l => exact .inr (.inl ⟨_, _, rfl, SqT.of (S1.ex _ _ hp), h B1 H1 ss1 [] st kp S1 (by simp) _ (itOk_enumT (fun H' e => SqT.of (e _ _ hp)) l)⟩)
        | wtup ys =>
          cases hx
          cases f with
          | wtup hp l => exact .inr (.inl ⟨_, _, rfl, by rw [hK]; exact (hp.mono S1.ex).seq, h B1 H1 ss1 [] st kp S1 (by simp) _ (itOk_enumT (fun H' e => by rw [hK]; exact (hp.mono e).seq) l)⟩)
        | str s =>
          cases hx
          cases f
          exact .inr (.inr ⟨_, rfl, h B1 H1 ss1 [] st kp S1 (by simp) _ itOk_enumS⟩)
        | _ => cases hx
      · exact h.elim
end
@[simp] theorem itEnA_app {m : M R} {e : Env} : itEnA m e = Res.bind (frz m e) fun d e => match enD d with
  | some xs => if xs.length < 100000 then .ok (enumD 0 xs) e else .fail
  | none => .fail := by
  unfold itEnA
  rw [bnd_app]
  cases frz m e with
  | ok d e1 =>
    simp only [rb_ok]
    cases enD d with
    | none => rfl
    | some xs => simp only; split <;> rfl
  | _ => rfl
end DV

set_option Elab.async false
set_option linter.all false
set_option maxRecDepth 100000
set_option maxHeartbeats 4000000
namespace Lib
open L2 DV
def m__law_stream : M Fl :=
  (retM (lstM [(opM gList [(ldM 0)]), (ret (.d (.int 0))), (ret (.d (.int 0)))]))
def f__law_stream : Fn := bodyF 1 [] m__law_stream
def m__law_next : M Fl :=
  (seqM (ifM (tsM (opM gEq [(opM gIx [(ldM 0), (ret (.d (.int 1)))]), (ret (.d (.int 0)))])) (seqM (asgM 2 (opM gIx [(ldM 0), (ret (.d (.int 2)))]))
  (seqM (asgM 3 (opM gAdd [(ret (.d (.int 7))), (ldM 2)]))
  (seqM (ifM (tsM (opM gLt [(ldM 2), (opM gLen [(opM gIx [(ldM 0), (ret (.d (.int 0)))])])])) (asgM 3 (opM gAbs [(opM gIx [(opM gIx [(ldM 0), (ret (.d (.int 0)))]), (ldM 2)])])) (ret .nx))
  (seqM (ifM (tsM (opM gLt [(ldM 3), (opM gPow [(ret (.d (.int 10))), (ret (.d (.int 18)))])])) (seqM (asgM 3 (opM gMod [(opM gInt [(opM gAdd [(opM gAdd [(opM gMul [(ldM 3), (ret (.d (.int 48271)))]), (opM gMul [(ldM 2), (ret (.d (.int 69621)))])]), (ret (.d (.int 11)))])]), (ret (.d (.int 2147483647)))]))
  (asgM 3 (opM gAdd [(opM gMul [(opM gMod [(opM gInt [(opM gAdd [(opM gMul [(ldM 3), (ret (.d (.int 16807)))]), (ret (.d (.int 13)))])]), (ret (.d (.int 2147483647)))]), (ret (.d (.int 65537)))]), (ldM 3)]))) (ret .nx))
  (seqM (stoM (ldM 0) (ret (.d (.int 1))) (ldM 3))
  (stoM (ldM 0) (ret (.d (.int 2))) (opM gAdd [(ldM 2), (ret (.d (.int 1)))]))))))) (ret .nx))
  (seqM (asgM 4 (opM gMod [(opM gInt [(opM gIx [(ldM 0), (ret (.d (.int 1)))])]), (ldM 1)]))
  (seqM (stoM (ldM 0) (ret (.d (.int 1))) (opM gFdiv [(opM gIx [(ldM 0), (ret (.d (.int 1)))]), (ldM 1)]))
  (retM (ldM 4)))))
def f__law_next : Fn := bodyF 5 [0] m__law_next
def m__law_is_integer : M Fl :=
  (retM (andV (opM (gIsi "int") [(ldM 0)]) (notV (opM (gIsi "bool") [(ldM 0)]))))
def f__law_is_integer : Fn := bodyF 1 [] m__law_is_integer
def m__law_equal (self_ : Fn) : M Fl :=
  (seqM (ifM (tsM (opM gIsN [(ldM 1), (ret (.d .non))])) (retM (opM gIsN [(ldM 0), (ret (.d .non))])) (ret .nx))
  (seqM (ifM (tsM (opM (gIsi "bool") [(ldM 1)])) (retM (andV (opM (gIsi "bool") [(ldM 0)]) (opM gEq [(ldM 0), (ldM 1)]))) (ret .nx))
  (seqM (ifM (tsM (opM (gIsi "int") [(ldM 1)])) (retM (andV (callM f__law_is_integer [(false, (ldM 0))]) (opM gEq [(ldM 0), (ldM 1)]))) (ret .nx))
  (seqM (ifM (tsM (opM (gIsi "str") [(ldM 1)])) (retM (andV (opM (gIsi "str") [(ldM 0)]) (opM gEq [(ldM 0), (ldM 1)]))) (ret .nx))
  (seqM (ifM (andM (tsM (opM (gIsi "tuple") [(ldM 1)])) (notM (tsM (opM (gIsi "tuple") [(ldM 0)])))) (retM (ret (.d (.bl false)))) (ret .nx))
  (seqM (ifM (andM (tsM (opM (gIsi "list") [(ldM 1)])) (notM (tsM (opM (gIsi "list") [(ldM 0)])))) (retM (ret (.d (.bl false)))) (ret .nx))
  (seqM (ifM (tsM (opM gNe [(opM gLen [(ldM 0)]), (opM gLen [(ldM 1)])])) (retM (ret (.d (.bl false)))) (ret .nx))
  (retM (opM gAll [(compM [2] (itR1 (opM gLen [(ldM 1)])) (stD 2) (ret true) (callM self_ [(false, (opM gIx [(ldM 0), (ldM 2)])), (false, (opM gIx [(ldM 1), (ldM 2)]))]))])))))))))
def f__law_equal : Nat → Fn
  | 0 => fun _ => .fail
  | n + 1 => bodyF 3 [] (m__law_equal (f__law_equal n))
def m__law_pick : M Fl :=
  (retM (opM gIx [(ldM 1), (callM f__law_next [(true, (ldM 0)), (false, (opM gLen [(ldM 1)]))])]))
def f__law_pick : Fn := bodyF 2 [0] m__law_pick
end Lib

set_option Elab.async false
set_option linter.all false
set_option maxRecDepth 100000
set_option maxHeartbeats 4000000
/-! Mirrors, printed by gen.py (lib.py k88 LibAct). -/
namespace Lib
open L2 DV PySem
def b1__law_returns : M Fl :=
  (seqM (asgM 4 (opM gIx [(ldM 0), (rmM "str" gSIx (ret (.d (.str [97, 98, 99]))) [(rmM "str" (gS1 Txt.lower) (ldM 3) [])])]))
  (ifM (tsM (opM gEq [(ldM 3), (rmM "str" (gS1 Txt.lower) (ldM 3) [])])) (asgM 2 (opM gIx [(ldM 4), (ldM 2)])) (asgM 2 (tixM (ldM 4) (ldM 2)))))
def m__law_returns : M Fl :=
  (seqM (asgM 2 (ret (.d (.int 0))))
  (seqM (bnd (itV (ldM 1)) (forM (stD 3) b1__law_returns))
  (retM (opM gEq [(ldM 2), (ret (.d (.int 0)))]))))
def f__law_returns : Fn := bodyF 5 [] m__law_returns
def m__law_letters : M Fl :=
  (retM (opM gSl01 [(ret (.d (.str [97, 65, 98, 66, 99, 67]))), (opM gMul [(ret (.d (.int 2))), (ldM 0)])]))
def f__law_letters : Fn := bodyF 1 [] m__law_letters
def e1__law_word : M R :=
  (opM gIx [(ldM 3), (callM f__law_next [(true, (ldM 0)), (false, (opM gLen [(ldM 3)]))])])
def m__law_word : M Fl :=
  (seqM (asgM 3 (callM f__law_letters [(false, (ldM 1))]))
  (retM (rmM "str" gJoin (ret (.d (.str []))) [(compM [4] (itR1 (callM f__law_next [(true, (ldM 0)), (false, (opM gAdd [(ldM 2), (ret (.d (.int 1)))]))])) (stD 4) (ret true) e1__law_word)])))
def f__law_word : Fn := bodyF 5 [0] m__law_word
def m__law_opposite : M Fl :=
  (retM (opM gIx [(ret (.d (.str [65, 97, 66, 98, 67, 99]))), (rmM "str" gSIx (ret (.d (.str [97, 65, 98, 66, 99, 67]))) [(ldM 0)])]))
def f__law_opposite : Fn := bodyF 1 [] m__law_opposite
def e1__law_inverse : M R :=
  (callM f__law_opposite [(false, (ldM 1))])
def m__law_inverse : M Fl :=
  (retM (rmM "str" gJoin (ret (.d (.str []))) [(compM [1] (itV (opM gRev [(ldM 0)])) (stD 1) (ret true) e1__law_inverse)]))
def f__law_inverse : Fn := bodyF 2 [] m__law_inverse
def b1__law_swap : M Fl :=
  (seqM (asgM 5 (opM gLRg1 [(ldM 2)]))
  (seqM (asgM 6 (callM f__law_next [(true, (ldM 0)), (false, (ldM 2))]))
  (seqM (asgM 7 (callM f__law_next [(true, (ldM 0)), (false, (ldM 2))]))
  (seqM (asgTM (tupM [(opM gIx [(ldM 5), (ldM 7)]), (opM gIx [(ldM 5), (ldM 6)])]) (stTup 2 (stCons (stSub (ldM 5) (ldM 6)) (stCons (stSub (ldM 5) (ldM 7)) stNil))))
  (bnd (mutM gAppend (ldM 3) [(opM gTupleW [(ldM 5)])]) fun _ => ret .nx)))))
def m__law_swap : M Fl :=
  (seqM (asgM 2 (opM gAdd [(ret (.d (.int 2))), (callM f__law_next [(true, (ldM 0)), (false, (ret (.d (.int 4))))])]))
  (seqM (asgM 3 (lstM []))
  (seqM (bnd (itR1 (ldM 1)) (forM (stD 4) b1__law_swap))
  (retM (opM gTupleW [(ldM 3)])))))
def f__law_swap : Fn := bodyF 8 [0] m__law_swap
def m_is_between : M Fl :=
  (retM (andV (opM (gIsi "int") [(ldM 0)]) (andV (notV (opM (gIsi "bool") [(ldM 0)])) (chainM gLe gLe (ldM 1) (ldM 0) (ldM 2)))))
def f_is_between : Fn := bodyF 3 [] m_is_between
def m_is_rank : M Fl :=
  (retM (callM f_is_between [(false, (ldM 0)), (false, (ret (.d (.int 1)))), (false, (ret (.d (.int 3))))]))
def f_is_rank : Fn := bodyF 1 [] m_is_rank
def m_letters_of : M Fl :=
  (retM (opM gSl01 [(ret (.d (.str [97, 65, 98, 66, 99, 67]))), (opM gMul [(ret (.d (.int 2))), (ldM 0)])]))
def f_letters_of : Fn := bodyF 1 [] m_letters_of
def e1_is_letters : M R :=
  (opM gIn [(ldM 2), (callM f_letters_of [(false, (ldM 1))])])
def m_is_letters : M Fl :=
  (retM (andV (opM (gIsi "str") [(ldM 0)]) (opM gAll [(compM [2] (itV (ldM 0)) (stD 2) (ret true) e1_is_letters)])))
def f_is_letters : Fn := bodyF 3 [] m_is_letters
def m_is_word : M Fl :=
  (retM (andV (callM f_is_rank [(false, (ldM 1))]) (andV (callM f_is_letters [(false, (ldM 0)), (false, (ldM 1))]) (opM gLe [(opM gLen [(ldM 0)]), (ret (.d (.int 24)))]))))
def f_is_word : Fn := bodyF 2 [] m_is_word
def m_is_integer : M Fl :=
  (retM (andV (opM (gIsi "int") [(ldM 0)]) (notV (opM (gIsi "bool") [(ldM 0)]))))
def f_is_integer : Fn := bodyF 1 [] m_is_integer
def e1_is_permutation : M R :=
  (callM f_is_integer [(false, (ldM 2))])
def m_is_permutation : M Fl :=
  (seqM (ifM (orM (notM (tsM (opM (gIsi "tuple") [(ldM 0)]))) (orM (tsM (opM gNe [(opM gLen [(ldM 0)]), (ldM 1)])) (notM (tsM (opM gAll [(compM [2] (itV (ldM 0)) (stD 2) (ret true) e1_is_permutation)]))))) (retM (ret (.d (.bl false)))) (ret .nx))
  (retM (opM gEq [(opM gSort [(ldM 0)]), (opM gLRg1 [(ldM 1)])])))
def f_is_permutation : Fn := bodyF 3 [] m_is_permutation
def e1_is_action : M R :=
  (callM f_is_permutation [(false, (ldM 3)), (false, (ldM 2))])
def m_is_action : M Fl :=
  (seqM (ifM (orM (notM (tsM (opM (gIsi "tuple") [(ldM 0)]))) (orM (tsM (opM gNe [(opM gLen [(ldM 0)]), (ldM 1)])) (orM (notM (trM (ldM 0))) (notM (tsM (opM (gIsi "tuple") [(opM gIx [(ldM 0), (ret (.d (.int 0)))])])))))) (retM (ret (.d (.bl false)))) (ret .nx))
  (seqM (asgM 2 (opM gLen [(opM gIx [(ldM 0), (ret (.d (.int 0)))])]))
  (retM (andV (chainM gLe gLe (ret (.d (.int 1))) (ldM 2) (ret (.d (.int 60)))) (opM gAll [(compM [3] (itV (ldM 0)) (stD 3) (ret true) e1_is_action)])))))
def f_is_action : Fn := bodyF 4 [] m_is_action
def m_image_by : M Fl :=
  (seqM (asgM 3 (opM gIx [(ldM 0), (rmM "str" gSIx (ret (.d (.str [97, 98, 99]))) [(rmM "str" (gS1 Txt.lower) (ldM 2) [])])]))
  (retM (ifM (tsM (opM gIn [(ldM 2), (ret (.d (.str [97, 98, 99])))])) (opM gIx [(ldM 3), (ldM 1)]) (tixM (ldM 3) (ldM 1)))))
def f_image_by : Fn := bodyF 4 [] m_image_by
def b1_image_of : M Fl :=
  (asgM 1 (callM f_image_by [(false, (ldM 0)), (false, (ldM 1)), (false, (ldM 3))]))
def m_image_of : M Fl :=
  (seqM (bnd (itV (ldM 2)) (forM (stD 3) b1_image_of))
  (retM (ldM 1)))
def f_image_of : Fn := bodyF 4 [] m_image_of
def m_returns_in : M Fl :=
  (retM (opM gEq [(callM f_image_of [(false, (ldM 0)), (false, (ret (.d (.int 0)))), (false, (ldM 1))]), (ret (.d (.int 0)))]))
def f_returns_in : Fn := bodyF 2 [] m_returns_in
end Lib

set_option Elab.async false
set_option linter.all false
set_option maxRecDepth 100000
set_option maxHeartbeats 4000000
/-! Mirrors, printed by gen.py (lib.py k88 LibWs). -/
namespace Lib
open L2 DV PySem
def m__law_command : M Fl :=
  (seqM (asgTM (ldM 2) (stTup 2 (stCons (stD 3) (stCons (stD 4) stNil))))
  (seqM (asgM 5 (callM f__law_next [(true, (ldM 0)), (false, (ret (.d (.int 10))))]))
  (seqM (ifM (tsM (opM gLt [(ldM 5), (ret (.d (.int 5)))])) (seqM (asgM 6 (callM f__law_word [(true, (ldM 0)), (false, (ldM 1)), (false, (ret (.d (.int 5))))]))
  (seqM (ifM (andM (trM (ldM 4)) (tsM (opM gEq [(callM f__law_next [(true, (ldM 0)), (false, (ret (.d (.int 2))))]), (ret (.d (.int 1)))]))) (asgM 6 (opM gAdd [(ldM 6), (callM f__law_inverse [(false, (opM gSl10 [(ldM 6), (ret (.d (.int 1)))]))])])) (ret .nx))
  (seqM (ifM (tsM (opM gEq [(callM f__law_next [(true, (ldM 0)), (false, (ret (.d (.int 4))))]), (ret (.d (.int 1)))])) (asgM 6 (opM gAdd [(opM gSl01 [(ldM 6), (ret (.d (.int 4)))]), (opM gSl01 [(ldM 6), (ret (.d (.int 4)))])])) (ret .nx))
  (retM (tupM [(ret (.d (.str [103, 105, 118, 101]))), (opM gSl01 [(ldM 6), (ret (.d (.int 8)))])]))))) (ret .nx))
  (seqM (ifM (tsM (opM gLt [(ldM 5), (ret (.d (.int 7)))])) (retM (tupM [(ret (.d (.str [98, 105, 110, 100]))), (callM f__law_swap [(true, (ldM 0)), (false, (ldM 1))])])) (ret .nx))
  (retM (tupM [(opM gIx [(lstM [(ret (.d (.str [100, 114, 111, 112]))), (ret (.d (.str [108, 111, 111, 115, 101])))]), (opM gInt [(opM gEq [(ldM 5), (ret (.d (.int 9)))])])]), (callM f__law_next [(true, (ldM 0)), (false, (ret (.d (.int 4))))])]))))))
def f__law_command : Fn := bodyF 7 [0] m__law_command
def e1__law_why_not : M R :=
  (callM f__law_returns [(false, (ldM 6)), (false, (ldM 5))])
def e2__law_why_not : M R :=
  (callM f__law_returns [(false, (ldM 5)), (false, (ldM 7))])
def m__law_why_not : M Fl :=
  (seqM (asgTM (ldM 0) (stTup 2 (stCons (stD 2) (stCons (stD 3) stNil))))
  (seqM (asgTM (ldM 1) (stTup 2 (stCons (stD 4) (stCons (stD 5) stNil))))
  (seqM (ifM (tsM (opM gEq [(ldM 4), (ret (.d (.str [103, 105, 118, 101])))])) (seqM (ifM (tsM (opM gGe [(opM gLen [(ldM 2)]), (ret (.d (.int 4)))])) (retM (ret (.d (.str [109, 97, 110, 121])))) (ret .nx))
  (retM (opM gIx [(lstM [(ret (.d (.str [98, 111, 117, 110, 100]))), (ret (.d (.str [])))]), (opM gInt [(opM gAll [(compM [6] (itV (ldM 3)) (stD 6) (ret true) e1__law_why_not)])])]))) (ret .nx))
  (seqM (ifM (tsM (opM gEq [(ldM 4), (ret (.d (.str [98, 105, 110, 100])))])) (seqM (ifM (tsM (opM gGe [(opM gLen [(ldM 3)]), (ret (.d (.int 3)))])) (retM (ret (.d (.str [109, 97, 110, 121])))) (ret .nx))
  (retM (opM gIx [(lstM [(ret (.d (.str [119, 111, 114, 100]))), (ret (.d (.str [])))]), (opM gInt [(opM gAll [(compM [7] (itV (ldM 2)) (stD 7) (ret true) e2__law_why_not)])])]))) (ret .nx))
  (seqM (ifM (tsM (opM gEq [(ldM 4), (ret (.d (.str [100, 114, 111, 112])))])) (retM (opM gIx [(lstM [(ret (.d (.str [109, 105, 115, 115, 105, 110, 103]))), (ret (.d (.str [])))]), (opM gInt [(opM gLt [(ldM 5), (opM gLen [(ldM 2)])])])])) (ret .nx))
  (retM (opM gIx [(lstM [(ret (.d (.str [109, 105, 115, 115, 105, 110, 103]))), (ret (.d (.str [])))]), (opM gInt [(opM gLt [(ldM 5), (opM gLen [(ldM 3)])])])])))))))
def f__law_why_not : Fn := bodyF 8 [] m__law_why_not
def m__law_behind : M Fl :=
  (seqM (asgTM (ldM 0) (stTup 2 (stCons (stD 2) (stCons (stD 3) stNil))))
  (seqM (asgTM (ldM 1) (stTup 2 (stCons (stD 4) (stCons (stD 5) stNil))))
  (seqM (ifM (tsM (opM gEq [(ldM 4), (ret (.d (.str [103, 105, 118, 101])))])) (retM (tupM [(opM gAdd [(ldM 2), (tupM [(ldM 5)])]), (ldM 3)])) (ret .nx))
  (seqM (ifM (tsM (opM gEq [(ldM 4), (ret (.d (.str [98, 105, 110, 100])))])) (retM (tupM [(ldM 2), (opM gAdd [(ldM 3), (tupM [(ldM 5)])])])) (ret .nx))
  (seqM (ifM (tsM (opM gEq [(ldM 4), (ret (.d (.str [100, 114, 111, 112])))])) (retM (tupM [(opM gAdd [(opM gSl01 [(ldM 2), (ldM 5)]), (opM gSl10 [(ldM 2), (opM gAdd [(ldM 5), (ret (.d (.int 1)))])])]), (ldM 3)])) (ret .nx))
  (retM (tupM [(ldM 2), (opM gAdd [(opM gSl01 [(ldM 3), (ldM 5)]), (opM gSl10 [(ldM 3), (opM gAdd [(ldM 5), (ret (.d (.int 1)))])])])])))))))
def f__law_behind : Fn := bodyF 6 [] m__law_behind
def b1__law_product : M Fl :=
  (ifM (trM (ldM 1)) (seqM (asgM 5 (opM gIx [(ldM 1), (callM f__law_next [(true, (ldM 0)), (false, (opM gLen [(ldM 1)]))])]))
  (seqM (ifM (tsM (opM gEq [(callM f__law_next [(true, (ldM 0)), (false, (ret (.d (.int 2))))]), (ret (.d (.int 1)))])) (asgM 5 (callM f__law_inverse [(false, (ldM 5))])) (ret .nx))
  (ifM (tsM (opM gLe [(opM gLen [(opM gAdd [(ldM 3), (ldM 5)])]), (ldM 2)])) (asgM 3 (opM gAdd [(ldM 3), (ldM 5)])) (ret .nx)))) (ret .nx))
def m__law_product : M Fl :=
  (seqM (asgM 3 (ret (.d (.str []))))
  (seqM (bnd (itR1 (callM f__law_next [(true, (ldM 0)), (false, (ret (.d (.int 6))))])) (forM (stD 4) b1__law_product))
  (retM (ldM 3))))
def f__law_product : Fn := bodyF 6 [0] m__law_product
def m__law_asked : M Fl :=
  (seqM (ifM (tsM (opM gEq [(callM f__law_next [(true, (ldM 0)), (false, (ret (.d (.int 2))))]), (ret (.d (.int 1)))])) (retM (callM f__law_product [(true, (ldM 0)), (false, (ldM 2)), (false, (ret (.d (.int 12))))])) (ret .nx))
  (retM (callM f__law_word [(true, (ldM 0)), (false, (ldM 1)), (false, (ret (.d (.int 6))))])))
def f__law_asked : Fn := bodyF 3 [0] m__law_asked
def m_is_number : M Fl :=
  (retM (andV (opM (gIsi "int") [(ldM 0)]) (andV (notV (opM (gIsi "bool") [(ldM 0)])) (chainM gLe gLt (ret (.d (.int 0))) (ldM 0) (ret (.d (.int 4)))))))
def f_is_number : Fn := bodyF 1 [] m_is_number
def m_is_command : M Fl :=
  (seqM (ifM (orM (notM (tsM (opM (gIsi "tuple") [(ldM 0)]))) (orM (tsM (opM gNe [(opM gLen [(ldM 0)]), (ret (.d (.int 2)))])) (notM (tsM (opM (gIsi "str") [(opM gIx [(ldM 0), (ret (.d (.int 0)))])]))))) (retM (ret (.d (.bl false)))) (ret .nx))
  (seqM (ifM (tsM (opM gEq [(opM gIx [(ldM 0), (ret (.d (.int 0)))]), (ret (.d (.str [103, 105, 118, 101])))])) (retM (andV (callM f_is_word [(false, (opM gIx [(ldM 0), (ret (.d (.int 1)))])), (false, (ldM 1))]) (opM gLe [(opM gLen [(opM gIx [(ldM 0), (ret (.d (.int 1)))])]), (ret (.d (.int 8)))]))) (ret .nx))
  (seqM (ifM (tsM (opM gEq [(opM gIx [(ldM 0), (ret (.d (.int 0)))]), (ret (.d (.str [98, 105, 110, 100])))])) (retM (callM f_is_action [(false, (opM gIx [(ldM 0), (ret (.d (.int 1)))])), (false, (ldM 1))])) (ret .nx))
  (retM (andV (opM gIn [(opM gIx [(ldM 0), (ret (.d (.int 0)))]), (tupM [(ret (.d (.str [100, 114, 111, 112]))), (ret (.d (.str [108, 111, 111, 115, 101])))])]) (callM f_is_number [(false, (opM gIx [(ldM 0), (ret (.d (.int 1)))]))]))))))
def f_is_command : Fn := bodyF 2 [] m_is_command
def m_without : M Fl :=
  (seqM (ifM (tsM (opM gGe [(ldM 1), (opM gLen [(ldM 0)])])) (raiseM 4 [(ret (.d (.str [109, 105, 115, 115, 105, 110, 103])))]) (ret .nx))
  (retM (opM gAdd [(opM gSl01 [(ldM 0), (ldM 1)]), (opM gSl10 [(ldM 0), (opM gAdd [(ldM 1), (ret (.d (.int 1)))])])])))
def f_without : Fn := bodyF 2 [] m_without
def e1_with_word : M R :=
  (callM f_returns_in [(false, (ldM 3)), (false, (ldM 2))])
def m_with_word : M Fl :=
  (seqM (ifM (tsM (opM gGe [(opM gLen [(ldM 0)]), (ret (.d (.int 4)))])) (raiseM 4 [(ret (.d (.str [109, 97, 110, 121])))]) (ret .nx))
  (seqM (ifM (notM (tsM (opM gAll [(compM [3] (itV (ldM 1)) (stD 3) (ret true) e1_with_word)]))) (raiseM 4 [(ret (.d (.str [98, 111, 117, 110, 100])))]) (ret .nx))
  (retM (opM gAdd [(ldM 0), (tupM [(ldM 2)])]))))
def f_with_word : Fn := bodyF 4 [] m_with_word
def e1_with_bound : M R :=
  (callM f_returns_in [(false, (ldM 2)), (false, (ldM 3))])
def m_with_bound : M Fl :=
  (seqM (ifM (tsM (opM gGe [(opM gLen [(ldM 1)]), (ret (.d (.int 3)))])) (raiseM 4 [(ret (.d (.str [109, 97, 110, 121])))]) (ret .nx))
  (seqM (ifM (notM (tsM (opM gAll [(compM [3] (itV (ldM 0)) (stD 3) (ret true) e1_with_bound)]))) (raiseM 4 [(ret (.d (.str [119, 111, 114, 100])))]) (ret .nx))
  (retM (opM gAdd [(ldM 1), (tupM [(ldM 2)])]))))
def f_with_bound : Fn := bodyF 4 [] m_with_bound
def m_behind : M Fl :=
  (seqM (asgTM (ldM 0) (stTup 2 (stCons (stD 2) (stCons (stD 3) stNil))))
  (seqM (asgTM (ldM 1) (stTup 2 (stCons (stD 4) (stCons (stD 5) stNil))))
  (seqM (ifM (tsM (opM gEq [(ldM 4), (ret (.d (.str [103, 105, 118, 101])))])) (retM (tupM [(callM f_with_word [(false, (ldM 2)), (false, (ldM 3)), (false, (ldM 5))]), (ldM 3)])) (ret .nx))
  (seqM (ifM (tsM (opM gEq [(ldM 4), (ret (.d (.str [100, 114, 111, 112])))])) (retM (tupM [(callM f_without [(false, (ldM 2)), (false, (ldM 5))]), (ldM 3)])) (ret .nx))
  (seqM (ifM (tsM (opM gEq [(ldM 4), (ret (.d (.str [98, 105, 110, 100])))])) (retM (tupM [(ldM 2), (callM f_with_bound [(false, (ldM 2)), (false, (ldM 3)), (false, (ldM 5))])])) (ret .nx))
  (retM (tupM [(ldM 2), (callM f_without [(false, (ldM 3)), (false, (ldM 5))])])))))))
def f_behind : Fn := bodyF 6 [] m_behind
def m_Workspace_act : M Fl :=
  (seqM (ifM (notM (tsM (callM f_is_command [(false, (ldM 1)), (false, (fldM 12 0 (ldM 0)))]))) (raiseM 1 [(ret (.d (.str [99, 111, 109, 109, 97, 110, 100])))]) (ret .nx))
  (seqM (asgM 2 (callM f_behind [(false, (opM gIx [(fldM 12 1 (ldM 0)), (opM gNeg [(ret (.d (.int 1)))])])), (false, (ldM 1))]))
  (seqM (ifM (tsM (opM gGe [(opM gLen [(fldM 12 2 (ldM 0))]), (ret (.d (.int 20)))])) (raiseM 3 [(ret (.d (.str [99, 111, 109, 109, 97, 110, 100, 115])))]) (ret .nx))
  (seqM (bnd (mutM gAppend (fldM 12 1 (ldM 0)) [(ldM 2)]) fun _ => ret .nx)
  (seqM (stFS 12 2 (ldM 0) (opM gAdd [(fldM 12 2 (ldM 0)), (tupM [(ldM 1)])]))
  (retM (opM gLen [(fldM 12 2 (ldM 0))])))))))
def f_Workspace_act : Fn := bodyF 3 [0] m_Workspace_act
def m_Workspace_init : M Fl :=
  (seqM (ifM (notM (tsM (callM f_is_rank [(false, (ldM 1))]))) (raiseM 1 [(ret (.d (.str [114, 97, 110, 107])))]) (ret .nx))
  (seqM (stFS 12 0 (ldM 0) (ldM 1))
  (seqM (stFS 12 1 (ldM 0) (lstM [(tupM [(tupM []), (tupM [])])]))
  (stFS 12 2 (ldM 0) (tupM [])))))
def f_Workspace_init : Fn := bodyF 2 [0] m_Workspace_init
def m_Workspace_family : M Fl :=
  (retM (tupM [(fldM 12 0 (ldM 0)), (opM gIx [(opM gIx [(fldM 12 1 (ldM 0)), (opM gNeg [(ret (.d (.int 1)))])]), (ret (.d (.int 0)))])]))
def f_Workspace_family : Fn := bodyF 1 [0] m_Workspace_family
def m_Workspace_bounds : M Fl :=
  (retM (opM gIx [(opM gIx [(fldM 12 1 (ldM 0)), (opM gNeg [(ret (.d (.int 1)))])]), (ret (.d (.int 1)))]))
def f_Workspace_bounds : Fn := bodyF 1 [0] m_Workspace_bounds
def m_Workspace_journal : M Fl :=
  (retM (fldM 12 2 (ldM 0)))
def f_Workspace_journal : Fn := bodyF 1 [0] m_Workspace_journal
def m_Workspace_check_word : M Fl :=
  (ifM (notM (tsM (callM f_is_word [(false, (ldM 1)), (false, (fldM 12 0 (ldM 0)))]))) (raiseM 1 [(ret (.d (.str [119, 111, 114, 100])))]) (ret .nx))
def f_Workspace_check_word : Fn := bodyF 2 [0] m_Workspace_check_word
def q1_Workspace_broken : M Bool :=
  (notM (tsM (callM f_returns_in [(false, (ldM 3)), (false, (ldM 1))])))
def m_Workspace_broken : M Fl :=
  (seqM (bnd (methM 12 f_Workspace_check_word (ldM 0) [(false, (ldM 1))]) fun _ => ret .nx)
  (retM (opM gTuple [(compM [2, 3] (itEnA (methM 12 f_Workspace_bounds (ldM 0) [])) (stTup 2 (stCons (stD 2) (stCons (stD 3) stNil))) q1_Workspace_broken (ldM 2))])))
def f_Workspace_broken : Fn := bodyF 4 [0] m_Workspace_broken
end Lib

set_option Elab.async false
set_option linter.all false
set_option maxRecDepth 100000
set_option maxHeartbeats 4000000
/-! The walk of the law, printed by gen.py. -/
namespace K88
open PySem L2 PySem.Spec PyProof.Rows DV Lib
def top (i : Nat) : Stmt := PySem.Challenge.pw_foldedways_k88_whole_commands_of_workspa.main.body.getD i (.Pass ⟨0, 0, 0, 0⟩)
abbrev s__law_stream : Stmt := top 37
abbrev s__law_next : Stmt := top 38
abbrev s__law_is_integer : Stmt := top 39
abbrev s__law_equal : Stmt := top 40
abbrev s__law_returns : Stmt := top 46
abbrev s__law_letters : Stmt := top 42
abbrev s__law_word : Stmt := top 43
abbrev s__law_opposite : Stmt := top 41
abbrev s__law_inverse : Stmt := top 44
abbrev s__law_swap : Stmt := top 47
abbrev s__law_command : Stmt := top 48
abbrev s__law_why_not : Stmt := top 49
abbrev s__law_behind : Stmt := top 50
abbrev s__law_product : Stmt := top 45
abbrev s__law_asked : Stmt := top 51
abbrev s_is_between : Stmt := top 10
abbrev s_is_rank : Stmt := top 11
abbrev s_letters_of : Stmt := top 12
abbrev s_is_letters : Stmt := top 13
abbrev s_is_word : Stmt := top 14
abbrev s_is_integer : Stmt := top 18
abbrev s_is_permutation : Stmt := top 19
abbrev s_is_action : Stmt := top 20
abbrev s_is_number : Stmt := top 29
abbrev s_is_command : Stmt := top 30
abbrev s_without : Stmt := top 31
abbrev s_image_by : Stmt := top 21
abbrev s_image_of : Stmt := top 22
abbrev s_returns_in : Stmt := top 23
abbrev s_with_word : Stmt := top 32
abbrev s_with_bound : Stmt := top 33
abbrev s_behind : Stmt := top 34
abbrev s_Workspace_act : Stmt := inClass (top 35) 1
abbrev s__law_told : Stmt := top 52
abbrev s_Workspace_init : Stmt := inClass (top 35) 0
abbrev s_Workspace_family : Stmt := inClass (top 35) 3
abbrev s_Workspace_bounds : Stmt := inClass (top 35) 4
abbrev s_Workspace_journal : Stmt := inClass (top 35) 5
abbrev s_Workspace_check_word : Stmt := inClass (top 35) 6
abbrev s_Workspace_broken : Stmt := inClass (top 35) 7
abbrev s_law : Stmt := top 53
abbrev i_BadValue : Stmt := inClass (top 3) 0
abbrev i_TooLarge : Stmt := inClass (top 4) 0
abbrev i_NotPossible : Stmt := inClass (top 5) 0
structure Ads where
  a__law_stream : Addr
  d__law_stream : FuncData
  a__law_next : Addr
  d__law_next : FuncData
  a__law_is_integer : Addr
  d__law_is_integer : FuncData
  a__law_equal : Addr
  d__law_equal : FuncData
  a__law_returns : Addr
  d__law_returns : FuncData
  a__law_letters : Addr
  d__law_letters : FuncData
  a__law_word : Addr
  d__law_word : FuncData
  a__law_opposite : Addr
  d__law_opposite : FuncData
  a__law_inverse : Addr
  d__law_inverse : FuncData
  a__law_swap : Addr
  d__law_swap : FuncData
  a__law_command : Addr
  d__law_command : FuncData
  a__law_why_not : Addr
  d__law_why_not : FuncData
  a__law_behind : Addr
  d__law_behind : FuncData
  a__law_product : Addr
  d__law_product : FuncData
  a__law_asked : Addr
  d__law_asked : FuncData
  a_is_between : Addr
  d_is_between : FuncData
  a_is_rank : Addr
  d_is_rank : FuncData
  a_letters_of : Addr
  d_letters_of : FuncData
  a_is_letters : Addr
  d_is_letters : FuncData
  a_is_word : Addr
  d_is_word : FuncData
  a_is_integer : Addr
  d_is_integer : FuncData
  a_is_permutation : Addr
  d_is_permutation : FuncData
  a_is_action : Addr
  d_is_action : FuncData
  a_is_number : Addr
  d_is_number : FuncData
  a_is_command : Addr
  d_is_command : FuncData
  a_without : Addr
  d_without : FuncData
  a_image_by : Addr
  d_image_by : FuncData
  a_image_of : Addr
  d_image_of : FuncData
  a_returns_in : Addr
  d_returns_in : FuncData
  a_with_word : Addr
  d_with_word : FuncData
  a_with_bound : Addr
  d_with_bound : FuncData
  a_behind : Addr
  d_behind : FuncData
  a_Workspace_act : Addr
  d_Workspace_act : FuncData
  a__law_told : Addr
  d__law_told : FuncData
  a_Workspace_init : Addr
  d_Workspace_init : FuncData
  a_Workspace_family : Addr
  d_Workspace_family : FuncData
  a_Workspace_bounds : Addr
  d_Workspace_bounds : FuncData
  a_Workspace_journal : Addr
  d_Workspace_journal : FuncData
  a_Workspace_check_word : Addr
  d_Workspace_check_word : FuncData
  a_Workspace_broken : Addr
  d_Workspace_broken : FuncData
  a_law : Addr
  d_law : FuncData
  c_WaysError : Addr
  c_BadValue : Addr
  c_TooLarge : Addr
  c_NotPossible : Addr
  ci_BadValue : Addr
  di_BadValue : FuncData
  ci_TooLarge : Addr
  di_TooLarge : FuncData
  ci_NotPossible : Addr
  di_NotPossible : FuncData
  c_Workspace : Addr
def cA (a : Ads) : Nat → Addr
  | 0 => a.c_WaysError
  | 1 => a.c_BadValue
  | 3 => a.c_TooLarge
  | 4 => a.c_NotPossible
  | 12 => a.c_Workspace
  | _ => 0
def lay : Nat → List Str
  | 1 => ["name"]
  | 3 => ["what"]
  | 4 => ["why"]
  | 12 => ["rank", "states", "commands"]
  | _ => []
theorem lay_nd : ∀ c, (lay c).Nodup
  | 0 => by decide +kernel
  | 1 => by decide +kernel
  | 2 => by decide +kernel
  | 3 => by decide +kernel
  | 4 => by decide +kernel
  | 5 => by decide +kernel
  | 6 => by decide +kernel
  | 7 => by decide +kernel
  | 8 => by decide +kernel
  | 9 => by decide +kernel
  | 10 => by decide +kernel
  | 11 => by decide +kernel
  | 12 => by decide +kernel
  | n + 13 => by simp [lay]
def G (K : PySem.W.Frag) (a : Ads) : Cfg := ⟨K, cA a, lay⟩
structure Txt (K : PySem.W.Frag) (mg : Str → Option Value) (a : Ads) : Prop where
  f__law_stream : DefAt K "_law_stream" "_law_stream" s__law_stream ["_law_script"] a.a__law_stream a.d__law_stream
  g__law_stream : mg "_law_stream" = some (.ref a.a__law_stream)
  f__law_next : DefAt K "_law_next" "_law_next" s__law_next ["_law_stream_here", "_law_many"] a.a__law_next a.d__law_next
  g__law_next : mg "_law_next" = some (.ref a.a__law_next)
  f__law_is_integer : DefAt K "_law_is_integer" "_law_is_integer" s__law_is_integer ["_law_actual"] a.a__law_is_integer a.d__law_is_integer
  g__law_is_integer : mg "_law_is_integer" = some (.ref a.a__law_is_integer)
  f__law_equal : DefAt K "_law_equal" "_law_equal" s__law_equal ["_law_actual", "_law_due"] a.a__law_equal a.d__law_equal
  g__law_equal : mg "_law_equal" = some (.ref a.a__law_equal)
  f__law_returns : DefAt K "_law_returns" "_law_returns" s__law_returns ["_law_action", "_law_word_here"] a.a__law_returns a.d__law_returns
  g__law_returns : mg "_law_returns" = some (.ref a.a__law_returns)
  f__law_letters : DefAt K "_law_letters" "_law_letters" s__law_letters ["_law_rank"] a.a__law_letters a.d__law_letters
  g__law_letters : mg "_law_letters" = some (.ref a.a__law_letters)
  f__law_word : DefAt K "_law_word" "_law_word" s__law_word ["_law_stream_here", "_law_rank", "_law_most"] a.a__law_word a.d__law_word
  g__law_word : mg "_law_word" = some (.ref a.a__law_word)
  f__law_opposite : DefAt K "_law_opposite" "_law_opposite" s__law_opposite ["_law_letter"] a.a__law_opposite a.d__law_opposite
  g__law_opposite : mg "_law_opposite" = some (.ref a.a__law_opposite)
  f__law_inverse : DefAt K "_law_inverse" "_law_inverse" s__law_inverse ["_law_word_here"] a.a__law_inverse a.d__law_inverse
  g__law_inverse : mg "_law_inverse" = some (.ref a.a__law_inverse)
  f__law_swap : DefAt K "_law_swap" "_law_swap" s__law_swap ["_law_stream_here", "_law_rank"] a.a__law_swap a.d__law_swap
  g__law_swap : mg "_law_swap" = some (.ref a.a__law_swap)
  f__law_command : DefAt K "_law_command" "_law_command" s__law_command ["_law_stream_here", "_law_rank", "_law_state"] a.a__law_command a.d__law_command
  g__law_command : mg "_law_command" = some (.ref a.a__law_command)
  f__law_why_not : DefAt K "_law_why_not" "_law_why_not" s__law_why_not ["_law_state", "_law_command_here"] a.a__law_why_not a.d__law_why_not
  g__law_why_not : mg "_law_why_not" = some (.ref a.a__law_why_not)
  f__law_behind : DefAt K "_law_behind" "_law_behind" s__law_behind ["_law_state", "_law_command_here"] a.a__law_behind a.d__law_behind
  g__law_behind : mg "_law_behind" = some (.ref a.a__law_behind)
  f__law_product : DefAt K "_law_product" "_law_product" s__law_product ["_law_stream_here", "_law_given", "_law_most"] a.a__law_product a.d__law_product
  g__law_product : mg "_law_product" = some (.ref a.a__law_product)
  f__law_asked : DefAt K "_law_asked" "_law_asked" s__law_asked ["_law_stream_here", "_law_rank", "_law_given"] a.a__law_asked a.d__law_asked
  g__law_asked : mg "_law_asked" = some (.ref a.a__law_asked)
  f_is_between : DefAt K "is_between" "is_between" s_is_between ["value", "low", "high"] a.a_is_between a.d_is_between
  g_is_between : mg "is_between" = some (.ref a.a_is_between)
  f_is_rank : DefAt K "is_rank" "is_rank" s_is_rank ["value"] a.a_is_rank a.d_is_rank
  g_is_rank : mg "is_rank" = some (.ref a.a_is_rank)
  f_letters_of : DefAt K "letters_of" "letters_of" s_letters_of ["rank"] a.a_letters_of a.d_letters_of
  g_letters_of : mg "letters_of" = some (.ref a.a_letters_of)
  f_is_letters : DefAt K "is_letters" "is_letters" s_is_letters ["value", "rank"] a.a_is_letters a.d_is_letters
  g_is_letters : mg "is_letters" = some (.ref a.a_is_letters)
  f_is_word : DefAt K "is_word" "is_word" s_is_word ["value", "rank"] a.a_is_word a.d_is_word
  g_is_word : mg "is_word" = some (.ref a.a_is_word)
  f_is_integer : DefAt K "is_integer" "is_integer" s_is_integer ["value"] a.a_is_integer a.d_is_integer
  g_is_integer : mg "is_integer" = some (.ref a.a_is_integer)
  f_is_permutation : DefAt K "is_permutation" "is_permutation" s_is_permutation ["value", "many"] a.a_is_permutation a.d_is_permutation
  g_is_permutation : mg "is_permutation" = some (.ref a.a_is_permutation)
  f_is_action : DefAt K "is_action" "is_action" s_is_action ["value", "rank"] a.a_is_action a.d_is_action
  g_is_action : mg "is_action" = some (.ref a.a_is_action)
  f_is_number : DefAt K "is_number" "is_number" s_is_number ["value"] a.a_is_number a.d_is_number
  g_is_number : mg "is_number" = some (.ref a.a_is_number)
  f_is_command : DefAt K "is_command" "is_command" s_is_command ["value", "rank"] a.a_is_command a.d_is_command
  g_is_command : mg "is_command" = some (.ref a.a_is_command)
  f_without : DefAt K "without" "without" s_without ["row", "number"] a.a_without a.d_without
  g_without : mg "without" = some (.ref a.a_without)
  f_image_by : DefAt K "image_by" "image_by" s_image_by ["action", "point", "letter"] a.a_image_by a.d_image_by
  g_image_by : mg "image_by" = some (.ref a.a_image_by)
  f_image_of : DefAt K "image_of" "image_of" s_image_of ["action", "point", "word"] a.a_image_of a.d_image_of
  g_image_of : mg "image_of" = some (.ref a.a_image_of)
  f_returns_in : DefAt K "returns_in" "returns_in" s_returns_in ["action", "word"] a.a_returns_in a.d_returns_in
  g_returns_in : mg "returns_in" = some (.ref a.a_returns_in)
  f_with_word : DefAt K "with_word" "with_word" s_with_word ["given", "bounds", "word"] a.a_with_word a.d_with_word
  g_with_word : mg "with_word" = some (.ref a.a_with_word)
  f_with_bound : DefAt K "with_bound" "with_bound" s_with_bound ["given", "bounds", "action"] a.a_with_bound a.d_with_bound
  g_with_bound : mg "with_bound" = some (.ref a.a_with_bound)
  f_behind : DefAt K "behind" "behind" s_behind ["state", "command"] a.a_behind a.d_behind
  g_behind : mg "behind" = some (.ref a.a_behind)
  f_Workspace_act : DefAt K "act" "Workspace.act" s_Workspace_act ["self", "command"] a.a_Workspace_act a.d_Workspace_act
  f__law_told : DefAt K "_law_told" "_law_told" s__law_told ["_law_space", "_law_command_here"] a.a__law_told a.d__law_told
  g__law_told : mg "_law_told" = some (.ref a.a__law_told)
  f_Workspace_init : DefAt K "__init__" "Workspace.__init__" s_Workspace_init ["self", "rank"] a.a_Workspace_init a.d_Workspace_init
  f_Workspace_family : DefAt K "family" "Workspace.family" s_Workspace_family ["self"] a.a_Workspace_family a.d_Workspace_family
  f_Workspace_bounds : DefAt K "bounds" "Workspace.bounds" s_Workspace_bounds ["self"] a.a_Workspace_bounds a.d_Workspace_bounds
  f_Workspace_journal : DefAt K "journal" "Workspace.journal" s_Workspace_journal ["self"] a.a_Workspace_journal a.d_Workspace_journal
  f_Workspace_check_word : DefAt K "check_word" "Workspace.check_word" s_Workspace_check_word ["self", "word"] a.a_Workspace_check_word a.d_Workspace_check_word
  f_Workspace_broken : DefAt K "broken" "Workspace.broken" s_Workspace_broken ["self", "word"] a.a_Workspace_broken a.d_Workspace_broken
  f_law : DefAt K "law" "law" s_law ["_law_script"] a.a_law a.d_law
  g_law : mg "law" = some (.ref a.a_law)
  gl_WaysError : mg "WaysError" = some (.ref a.c_WaysError)
  ty_WaysError : PySem.W.typeIn K (.ref a.c_WaysError) = some (.type "type")
  xf_WaysError : XfC K a.c_WaysError
  e_BadValue : ExcAt K mg "BadValue" a.c_BadValue a.ci_BadValue
  i_BadValue : DefAt K "__init__" "BadValue.__init__" i_BadValue ["self", "name"] a.ci_BadValue a.di_BadValue
  gl_BadValue : mg "BadValue" = some (.ref a.c_BadValue)
  ty_BadValue : PySem.W.typeIn K (.ref a.c_BadValue) = some (.type "type")
  xf_BadValue : XfC K a.c_BadValue
  e_TooLarge : ExcAt K mg "TooLarge" a.c_TooLarge a.ci_TooLarge
  i_TooLarge : DefAt K "__init__" "TooLarge.__init__" i_TooLarge ["self", "what"] a.ci_TooLarge a.di_TooLarge
  gl_TooLarge : mg "TooLarge" = some (.ref a.c_TooLarge)
  ty_TooLarge : PySem.W.typeIn K (.ref a.c_TooLarge) = some (.type "type")
  xf_TooLarge : XfC K a.c_TooLarge
  e_NotPossible : ExcAt K mg "NotPossible" a.c_NotPossible a.ci_NotPossible
  i_NotPossible : DefAt K "__init__" "NotPossible.__init__" i_NotPossible ["self", "why"] a.ci_NotPossible a.di_NotPossible
  gl_NotPossible : mg "NotPossible" = some (.ref a.c_NotPossible)
  ty_NotPossible : PySem.W.typeIn K (.ref a.c_NotPossible) = some (.type "type")
  xf_NotPossible : XfC K a.c_NotPossible
  cl_Workspace : Cls K a.c_Workspace
  mk_Workspace : Mk K a.c_Workspace a.a_Workspace_init
  gl_Workspace : mg "Workspace" = some (.ref a.c_Workspace)
  na_Workspace_commands : NoAttr K a.c_Workspace "commands"
  na_Workspace_rank : NoAttr K a.c_Workspace "rank"
  na_Workspace_states : NoAttr K a.c_Workspace "states"
  me_Workspace_act : Meth K a.c_Workspace "act" a.a_Workspace_act
  me_Workspace_bounds : Meth K a.c_Workspace "bounds" a.a_Workspace_bounds
  me_Workspace_broken : Meth K a.c_Workspace "broken" a.a_Workspace_broken
  me_Workspace_check_word : Meth K a.c_Workspace "check_word" a.a_Workspace_check_word
  me_Workspace_family : Meth K a.c_Workspace "family" a.a_Workspace_family
  me_Workspace_journal : Meth K a.c_Workspace "journal" a.a_Workspace_journal
  n_list : mg "list" = none
  n_len : mg "len" = none
  n_abs : mg "abs" = none
  n_int : mg "int" = none
  n_isinstance : mg "isinstance" = none
  n_bool : mg "bool" = none
  n_str : mg "str" = none
  n_tuple : mg "tuple" = none
  n_range : mg "range" = none
  n_all : mg "all" = none
  v_MOST_RANK : ∃ t, mg "MOST_RANK" = some (.int 3 t)
  v_LETTERS : ∃ t, mg "LETTERS" = some (.str "aAbBcC" t)
  v_LONGEST : ∃ t, mg "LONGEST" = some (.int 24 t)
  n_sorted : mg "sorted" = none
  v_MOST_POINTS : ∃ t, mg "MOST_POINTS" = some (.int 60 t)
  v_MOST_GIVEN : ∃ t, mg "MOST_GIVEN" = some (.int 4 t)
  v_MOST_LETTERS : ∃ t, mg "MOST_LETTERS" = some (.int 8 t)
  no_NotPossible_why : PySem.W.findIn K (.ref a.c_NotPossible) "why" = some none
  v_SMALL : ∃ t, mg "SMALL" = some (.str "abc" t)
  v_MOST_BOUNDS : ∃ t, mg "MOST_BOUNDS" = some (.int 3 t)
  no_BadValue_name : PySem.W.findIn K (.ref a.c_BadValue) "name" = some none
  v_MOST_COMMANDS : ∃ t, mg "MOST_COMMANDS" = some (.int 20 t)
  no_TooLarge_what : PySem.W.findIn K (.ref a.c_TooLarge) "what" = some none
  sub_BadValue_NotPossible : PySem.W.subIn K (.ref a.c_BadValue) (.ref a.c_NotPossible) = some false
  sub_TooLarge_NotPossible : PySem.W.subIn K (.ref a.c_TooLarge) (.ref a.c_NotPossible) = some false
  sub_NotPossible_NotPossible : PySem.W.subIn K (.ref a.c_NotPossible) (.ref a.c_NotPossible) = some true
  n_enumerate : mg "enumerate" = none
section
variable {P : Program} {w : World} {K : PySem.W.Frag} {mg : Str → Option Value} {base : Heap} {a : Ads}
theorem sci_BadValue : FnScope ["self", "name"] ["self", "name"] (defScope i_BadValue) := ⟨rfl, rfl, rfl, by decide +kernel, rfl, by decide +kernel, by decide +kernel⟩
theorem oki_BadValue (T : Txt K mg a) : FnOk P w K mg base CX0 1 a.ci_BadValue a.di_BadValue ["self", "name"] (spI1 a.c_BadValue "name") := okI1 T.i_BadValue.F sci_BadValue T.e_BadValue.T T.no_BadValue_name rfl rfl (fun cdv A outer s H E => pss_one (ps_ost (pv 0) (pv 1) rfl))
theorem sci_TooLarge : FnScope ["self", "what"] ["self", "what"] (defScope i_TooLarge) := ⟨rfl, rfl, rfl, by decide +kernel, rfl, by decide +kernel, by decide +kernel⟩
theorem oki_TooLarge (T : Txt K mg a) : FnOk P w K mg base CX0 1 a.ci_TooLarge a.di_TooLarge ["self", "what"] (spI1 a.c_TooLarge "what") := okI1 T.i_TooLarge.F sci_TooLarge T.e_TooLarge.T T.no_TooLarge_what rfl rfl (fun cdv A outer s H E => pss_one (ps_ost (pv 0) (pv 1) rfl))
theorem sci_NotPossible : FnScope ["self", "why"] ["self", "why"] (defScope i_NotPossible) := ⟨rfl, rfl, rfl, by decide +kernel, rfl, by decide +kernel, by decide +kernel⟩
theorem oki_NotPossible (T : Txt K mg a) : FnOk P w K mg base CX0 1 a.ci_NotPossible a.di_NotPossible ["self", "why"] (spI1 a.c_NotPossible "why") := okI1 T.i_NotPossible.F sci_NotPossible T.e_NotPossible.T T.no_NotPossible_why rfl rfl (fun cdv A outer s H E => pss_one (ps_ost (pv 0) (pv 1) rfl))
/-! ### _law_stream -/
theorem sc__law_stream : FnScope ["_law_script"] ["_law_script"] (defScope s__law_stream) := ⟨rfl, rfl, rfl, by decide +kernel, rfl, by decide +kernel, by decide +kernel⟩
theorem ok__law_stream (T : Txt K mg a) : FnOk P w K mg base (L2.CX P w) 2 a.a__law_stream a.d__law_stream ["_law_script"] (spF (G K a) 1 f__law_stream) :=
  fn_ok [] T.f__law_stream.F sc__law_stream (by decide) (fun _ _ => .inr (.inl rfl)) (fun cdv A outer s H E hr => by
    have hu : (A.deeper _).units + 64 < cLine := hr.units
    have hu1 := hu_of hr
    have hu5 := hu5_of hr
    exact (jss_one (js_ret (je_lst (jf_cons (je_callTy call_list_of rd_list T.n_list (ja_cons (je_var 0) ja_nil) (by decide +kernel)) (jf_cons je_int (jf_cons je_int jf_nil)))))))
/-! ### _law_next -/
theorem sc__law_next : FnScope ["_law_stream_here", "_law_many", "_law_k", "_law_cell", "_law_digit"] ["_law_stream_here", "_law_many"] (defScope s__law_next) := ⟨rfl, rfl, rfl, by decide +kernel, rfl, by decide +kernel, by decide +kernel⟩
theorem ok__law_next (T : Txt K mg a) : FnOk P w K mg base (L2.CX P w) 2 a.a__law_next a.d__law_next ["_law_stream_here", "_law_many"] (spF (G K a) 2 f__law_next) :=
  fn_ok [0] T.f__law_next.F sc__law_next (by decide) (fun _ _ => .inr (.inl rfl)) (fun cdv A outer s H E hr => by
    have hu : (A.deeper _).units + 64 < cLine := hr.units
    have hu1 := hu_of hr
    have hu5 := hu5_of hr
    exact (jss_cons (js_if (jt_cmp (op_eqA hu) rd_eq (je_ix rfl hu1 (je_var 0) je_int) je_int) (jss_cons (js_asg 2 sc__law_next.nd (je_ix rfl hu1 (je_var 0) je_int))
      (jss_cons (js_asg 3 sc__law_next.nd (je_bin op_addA rd_add je_int (je_var 2)))
      (jss_cons (js_if (jt_cmp op_lt rd_lt (je_var 2) (je_callB call_lenA rd_len T.n_len (ja_cons (je_ix rfl hu1 (je_var 0) je_int) ja_nil) (by decide +kernel))) (jss_one (js_asg 3 sc__law_next.nd (je_callB call_abs rd_abs T.n_abs (ja_cons (je_ix rfl hu1 (je_ix rfl hu1 (je_var 0) je_int) (je_var 2)) ja_nil) (by decide +kernel)))) jss_nil)
      (jss_cons (js_if (jt_cmp op_lt rd_lt (je_var 3) (je_bin op_pow rd_pow je_int je_int)) (jss_cons (js_asg 3 sc__law_next.nd (je_bin op_mod rd_mod (je_callTy call_int1 rd_int T.n_int (ja_cons (je_bin op_addA rd_add (je_bin op_addA rd_add (je_bin op_mulA rd_mul (je_var 3) je_int) (je_bin op_mulA rd_mul (je_var 2) je_int)) je_int) ja_nil) (by decide +kernel)) je_int))
      (jss_one (js_asg 3 sc__law_next.nd (je_bin op_addA rd_add (je_bin op_mulA rd_mul (je_bin op_mod rd_mod (je_callTy call_int1 rd_int T.n_int (ja_cons (je_bin op_addA rd_add (je_bin op_mulA rd_mul (je_var 3) je_int) je_int) ja_nil) (by decide +kernel)) je_int) je_int) (je_var 3))))) jss_nil)
      (jss_cons (js_sto hu1 (je_var 0) je_int (je_var 3))
      (jss_one (js_sto hu1 (je_var 0) je_int (je_bin op_addA rd_add (je_var 2) je_int)))))))) jss_nil)
      (jss_cons (js_asg 4 sc__law_next.nd (je_bin op_mod rd_mod (je_callTy call_int1 rd_int T.n_int (ja_cons (je_ix rfl hu1 (je_var 0) je_int) ja_nil) (by decide +kernel)) (je_var 1)))
      (jss_cons (js_sto hu1 (je_var 0) je_int (je_bin op_fdiv rd_fdiv (je_ix rfl hu1 (je_var 0) je_int) (je_var 1)))
      (jss_one (js_ret (je_var 4)))))))
/-! ### _law_is_integer -/
theorem sc__law_is_integer : FnScope ["_law_actual"] ["_law_actual"] (defScope s__law_is_integer) := ⟨rfl, rfl, rfl, by decide +kernel, rfl, by decide +kernel, by decide +kernel⟩
theorem ok__law_is_integer (T : Txt K mg a) : FnOk P w K mg base (L2.CX P w) 2 a.a__law_is_integer a.d__law_is_integer ["_law_actual"] (spF (G K a) 1 f__law_is_integer) :=
  fn_ok [] T.f__law_is_integer.F sc__law_is_integer (by decide) (fun _ _ => .inr (.inl rfl)) (fun cdv A outer s H E hr => by
    have hu : (A.deeper _).units + 64 < cLine := hr.units
    have hu1 := hu_of hr
    have hu5 := hu5_of hr
    exact (jss_one (js_ret (je_and (je_isi "int" rfl T.n_isinstance (je_var 0) (tC_ty T.n_int PyProof.Rows.boot_int)) (je_one (je_not (je_isi "bool" rfl T.n_isinstance (je_var 0) (tC_ty T.n_bool PyProof.Rows.boot_bool))))))))
/-! ### _law_equal -/
theorem sc__law_equal : FnScope ["_law_actual", "_law_due", "_law_at"] ["_law_actual", "_law_due"] (defScope s__law_equal) := ⟨rfl, rfl, rfl, by decide +kernel, rfl, by decide +kernel, by decide +kernel⟩
theorem okg__law_equal (T : Txt K mg a) : ∀ n : Nat, FnOk P w K mg base (L2.CX P w) (2 + n) a.a__law_equal a.d__law_equal ["_law_actual", "_law_due"] (spF (G K a) 2 (f__law_equal n))
  | 0 => fn_fail
  | n + 1 => by
    have ih := okg__law_equal T n
    have ih__law_equal := ih
    exact fn_ok [] T.f__law_equal.F sc__law_equal (by decide) (fun _ _ => .inr (.inl rfl)) (fun cdv A outer s H E hr => by
      have hu : (A.deeper _).units + 64 < cLine := hr.units
      have hu1 := hu_of hr
      have hu5 := hu5_of hr
      have hr2 : Room (2 + n) _ := hr
      exact (jss_cons (js_if (jt_cmp op_isN rd_isN (je_var 1) je_non) (jss_one (js_ret (je_cmp op_isN rd_isN (je_var 0) je_non))) jss_nil)
      (jss_cons (js_if (jt_val (je_isi "bool" rfl T.n_isinstance (je_var 1) (tC_ty T.n_bool PyProof.Rows.boot_bool))) (jss_one (js_ret (je_and (je_isi "bool" rfl T.n_isinstance (je_var 0) (tC_ty T.n_bool PyProof.Rows.boot_bool)) (je_one (je_cmp (op_eqA hu) rd_eq (je_var 0) (je_var 1)))))) jss_nil)
      (jss_cons (js_if (jt_val (je_isi "int" rfl T.n_isinstance (je_var 1) (tC_ty T.n_int PyProof.Rows.boot_int))) (jss_one (js_ret (je_and (je_call (ok__law_is_integer T) (hr2.mono (by omega)) T.g__law_is_integer T.f__law_is_integer.k T.f__law_is_integer.b (takes_of rfl rfl rfl rfl) (jca_cons false (je_var 0) jca_nil)) (je_one (je_cmp (op_eqA hu) rd_eq (je_var 0) (je_var 1)))))) jss_nil)
      (jss_cons (js_if (jt_val (je_isi "str" rfl T.n_isinstance (je_var 1) (tC_ty T.n_str PyProof.Rows.boot_str))) (jss_one (js_ret (je_and (je_isi "str" rfl T.n_isinstance (je_var 0) (tC_ty T.n_str PyProof.Rows.boot_str)) (je_one (je_cmp (op_eqA hu) rd_eq (je_var 0) (je_var 1)))))) jss_nil)
      (jss_cons (js_if (jt_w (jw_and (jt_val (je_isi "tuple" rfl T.n_isinstance (je_var 1) (tC_ty T.n_tuple PyProof.Rows.boot_tuple))) (jw_and1 (jt_not (jt_val (je_isi "tuple" rfl T.n_isinstance (je_var 0) (tC_ty T.n_tuple PyProof.Rows.boot_tuple))))))) (jss_one (js_ret je_bl)) jss_nil)
      (jss_cons (js_if (jt_w (jw_and (jt_val (je_isi "list" rfl T.n_isinstance (je_var 1) (tC_ty T.n_list PyProof.Rows.boot_list))) (jw_and1 (jt_not (jt_val (je_isi "list" rfl T.n_isinstance (je_var 0) (tC_ty T.n_list PyProof.Rows.boot_list))))))) (jss_one (js_ret je_bl)) jss_nil)
      (jss_cons (js_if (jt_cmp (op_neA hu) rd_ne (je_callB call_lenA rd_len T.n_len (ja_cons (je_var 0) ja_nil) (by decide +kernel)) (je_callB call_lenA rd_len T.n_len (ja_cons (je_var 1) ja_nil) (by decide +kernel))) (jss_one (js_ret je_bl)) jss_nil)
      (jss_one (js_ret (je_callB (cr_all rfl) rd_all T.n_all (ja_cons (je_lc (own := [("_law_at", 2)]) [2] rfl sc__law_equal.nd (ji_range1 T.n_range (ja_cons (je_callB call_lenA rd_len T.n_len (ja_cons (je_var 1) ja_nil) (by decide +kernel)) ja_nil)) (blk_of (by kernel_rfl)) (fun s_ H_ C_ cl_ fp_ => (jg_name 2 sc__law_equal.nd)) (fun s_ H_ C_ cl_ fp_ => jc_nil) (fun s_ H_ C_ cl_ fp_ => (je_call ih__law_equal (hr2.mono (by omega)) T.g__law_equal T.f__law_equal.k T.f__law_equal.b takes0 (jca_cons false (je_ix rfl hu1 (je_var 0) (je_var 2)) (jca_cons false (je_ix rfl hu1 (je_var 1) (je_var 2)) jca_nil))))) ja_nil) (by decide +kernel))))))))))))
theorem ok__law_equal (T : Txt K mg a) (n : Nat) : FnOk P w K mg base (L2.CX P w) (2 + n) a.a__law_equal a.d__law_equal ["_law_actual", "_law_due"] (spF (G K a) 2 (f__law_equal n)) := (okg__law_equal T n)
/-! ### _law_returns -/
theorem sc__law_returns : FnScope ["_law_action", "_law_word_here", "_law_point", "_law_letter", "_law_row"] ["_law_action", "_law_word_here"] (defScope s__law_returns) := ⟨rfl, rfl, rfl, by decide +kernel, rfl, by decide +kernel, by decide +kernel⟩
theorem ok__law_returns (T : Txt K mg a) : FnOk P w K mg base (L2.CX P w) 2 a.a__law_returns a.d__law_returns ["_law_action", "_law_word_here"] (spF (G K a) 2 f__law_returns) :=
  fn_ok [] T.f__law_returns.F sc__law_returns (by decide) (fun _ _ => .inr (.inl rfl)) (fun cdv A outer s H E hr => by
    have hu : (A.deeper _).units + 64 < cLine := hr.units
    have hu1 := hu_of hr
    have hu5 := hu5_of hr
    exact (jss_cons (js_asg 2 sc__law_returns.nd je_int)
      (jss_cons (js_for (passes_of rfl) rfl (ji_val rfl (je_var 1)) (jg_name 3 sc__law_returns.nd) (jss_cons (js_asg 4 sc__law_returns.nd (je_ix rfl hu1 (je_var 0) (je_rm rfl PySem.F.plainAttrs_str PySem.F.slot_str_index PySem.F.type_str_index mt_sindex rd_sindex (je_str [97, 98, 99]) (ja_cons (je_rm0 rfl PySem.F.plainAttrs_str PySem.F.slot_str_lower PySem.F.type_str_lower mt_lower (rd_s1 (by decide)) (je_var 3)) ja_nil))))
      (jss_one (js_if (jt_cmp (op_eqA hu) rd_eq (je_var 3) (je_rm0 rfl PySem.F.plainAttrs_str PySem.F.slot_str_lower PySem.F.type_str_lower mt_lower (rd_s1 (by decide)) (je_var 3))) (jss_one (js_asg 2 sc__law_returns.nd (je_ix rfl hu1 (je_var 4) (je_var 2)))) (jss_one (js_asg 2 sc__law_returns.nd (je_tix rfl (je_var 4) (ja_cons (je_var 2) ja_nil))))))))
      (jss_one (js_ret (je_cmp (op_eqA hu) rd_eq (je_var 2) je_int))))))
/-! ### _law_letters -/
theorem sc__law_letters : FnScope ["_law_rank"] ["_law_rank"] (defScope s__law_letters) := ⟨rfl, rfl, rfl, by decide +kernel, rfl, by decide +kernel, by decide +kernel⟩
theorem ok__law_letters (T : Txt K mg a) : FnOk P w K mg base (L2.CX P w) 2 a.a__law_letters a.d__law_letters ["_law_rank"] (spF (G K a) 1 f__law_letters) :=
  fn_ok [] T.f__law_letters.F sc__law_letters (by decide) (fun _ _ => .inr (.inl rfl)) (fun cdv A outer s H E hr => by
    have hu : (A.deeper _).units + 64 < cLine := hr.units
    have hu1 := hu_of hr
    have hu5 := hu5_of hr
    exact (jss_one (js_ret (je_sl01 rfl (je_str [97, 65, 98, 66, 99, 67]) (je_bin op_mulA rd_mul je_int (je_var 0))))))
/-! ### _law_word -/
theorem sc__law_word : FnScope ["_law_stream_here", "_law_rank", "_law_most", "_law_letters_here", "_law_turn"] ["_law_stream_here", "_law_rank", "_law_most"] (defScope s__law_word) := ⟨rfl, rfl, rfl, by decide +kernel, rfl, by decide +kernel, by decide +kernel⟩
theorem ok__law_word (T : Txt K mg a) : FnOk P w K mg base (L2.CX P w) 3 a.a__law_word a.d__law_word ["_law_stream_here", "_law_rank", "_law_most"] (spF (G K a) 3 f__law_word) :=
  fn_ok [0] T.f__law_word.F sc__law_word (by decide) (fun _ _ => .inr (.inl rfl)) (fun cdv A outer s H E hr => by
    have hu : (A.deeper _).units + 64 < cLine := hr.units
    have hu1 := hu_of hr
    have hu5 := hu5_of hr
    exact (jss_cons (js_asg 3 sc__law_word.nd (je_call (ok__law_letters T) (hr.mono (by decide)) T.g__law_letters T.f__law_letters.k T.f__law_letters.b (takes_of rfl rfl rfl rfl) (jca_cons false (je_var 1) jca_nil)))
      (jss_one (js_ret (je_rm rfl PySem.F.plainAttrs_str PySem.F.slot_str_join PySem.F.type_str_join mt_join rd_join (je_str []) (ja_cons (je_lc (own := [("_law_turn", 4)]) [4] rfl sc__law_word.nd (ji_range1 T.n_range (ja_cons (je_call (ok__law_next T) (hr.mono (by decide)) T.g__law_next T.f__law_next.k T.f__law_next.b (takes_of rfl rfl rfl rfl) (jca_cons true (je_var 0) (jca_cons false (je_bin op_addA rd_add (je_var 2) je_int) jca_nil))) ja_nil)) (blk_of (by kernel_rfl)) (fun s_ H_ C_ cl_ fp_ => (jg_name 4 sc__law_word.nd)) (fun s_ H_ C_ cl_ fp_ => jc_nil) (fun s_ H_ C_ cl_ fp_ => (je_ix rfl hu1 (je_var 3) (je_call (ok__law_next T) (hr.mono (by decide)) T.g__law_next T.f__law_next.k T.f__law_next.b takes0 (jca_cons true (je_var 0) (jca_cons false (je_callB call_lenA rd_len T.n_len (ja_cons (je_var 3) ja_nil) (by decide +kernel)) jca_nil)))))) ja_nil))))))
/-! ### _law_opposite -/
theorem sc__law_opposite : FnScope ["_law_letter"] ["_law_letter"] (defScope s__law_opposite) := ⟨rfl, rfl, rfl, by decide +kernel, rfl, by decide +kernel, by decide +kernel⟩
theorem ok__law_opposite (T : Txt K mg a) : FnOk P w K mg base (L2.CX P w) 2 a.a__law_opposite a.d__law_opposite ["_law_letter"] (spF (G K a) 1 f__law_opposite) :=
  fn_ok [] T.f__law_opposite.F sc__law_opposite (by decide) (fun _ _ => .inr (.inl rfl)) (fun cdv A outer s H E hr => by
    have hu : (A.deeper _).units + 64 < cLine := hr.units
    have hu1 := hu_of hr
    have hu5 := hu5_of hr
    exact (jss_one (js_ret (je_ix rfl hu1 (je_str [65, 97, 66, 98, 67, 99]) (je_rm rfl PySem.F.plainAttrs_str PySem.F.slot_str_index PySem.F.type_str_index mt_sindex rd_sindex (je_str [97, 65, 98, 66, 99, 67]) (ja_cons (je_var 0) ja_nil))))))
/-! ### _law_inverse -/
theorem sc__law_inverse : FnScope ["_law_word_here", "_law_letter"] ["_law_word_here"] (defScope s__law_inverse) := ⟨rfl, rfl, rfl, by decide +kernel, rfl, by decide +kernel, by decide +kernel⟩
theorem ok__law_inverse (T : Txt K mg a) : FnOk P w K mg base (L2.CX P w) 3 a.a__law_inverse a.d__law_inverse ["_law_word_here"] (spF (G K a) 1 f__law_inverse) :=
  fn_ok [] T.f__law_inverse.F sc__law_inverse (by decide) (fun _ _ => .inr (.inl rfl)) (fun cdv A outer s H E hr => by
    have hu : (A.deeper _).units + 64 < cLine := hr.units
    have hu1 := hu_of hr
    have hu5 := hu5_of hr
    exact (jss_one (js_ret (je_rm rfl PySem.F.plainAttrs_str PySem.F.slot_str_join PySem.F.type_str_join mt_join rd_join (je_str []) (ja_cons (je_lc (own := [("_law_letter", 1)]) [1] rfl sc__law_inverse.nd (ji_val rfl (je_rev rfl (je_var 0))) (blk_of (by kernel_rfl)) (fun s_ H_ C_ cl_ fp_ => (jg_name 1 sc__law_inverse.nd)) (fun s_ H_ C_ cl_ fp_ => jc_nil) (fun s_ H_ C_ cl_ fp_ => (je_call (ok__law_opposite T) (hr.mono (by decide)) T.g__law_opposite T.f__law_opposite.k T.f__law_opposite.b takes0 (jca_cons false (je_var 1) jca_nil)))) ja_nil)))))
/-! ### _law_swap -/
theorem sc__law_swap : FnScope ["_law_stream_here", "_law_rank", "_law_many", "_law_rows", "_law_turn", "_law_row", "_law_one", "_law_other"] ["_law_stream_here", "_law_rank"] (defScope s__law_swap) := ⟨rfl, rfl, rfl, by decide +kernel, rfl, by decide +kernel, by decide +kernel⟩
theorem ok__law_swap (T : Txt K mg a) : FnOk P w K mg base (L2.CX P w) 3 a.a__law_swap a.d__law_swap ["_law_stream_here", "_law_rank"] (spF (G K a) 2 f__law_swap) :=
  fn_ok [0] T.f__law_swap.F sc__law_swap (by decide) (fun _ _ => .inr (.inl rfl)) (fun cdv A outer s H E hr => by
    have hu : (A.deeper _).units + 64 < cLine := hr.units
    have hu1 := hu_of hr
    have hu5 := hu5_of hr
    exact (jss_cons (js_asg 2 sc__law_swap.nd (je_bin op_addA rd_add je_int (je_call (ok__law_next T) (hr.mono (by decide)) T.g__law_next T.f__law_next.k T.f__law_next.b (takes_of rfl rfl rfl rfl) (jca_cons true (je_var 0) (jca_cons false je_int jca_nil)))))
      (jss_cons (js_asg 3 sc__law_swap.nd (je_lst jf_nil))
      (jss_cons (js_for (passes_of rfl) rfl (ji_range1 T.n_range (ja_cons (je_var 1) ja_nil)) (jg_name 4 sc__law_swap.nd) (jss_cons (js_asg 5 sc__law_swap.nd (je_lrg1 rfl T.n_list T.n_range (je_var 2)))
      (jss_cons (js_asg 6 sc__law_swap.nd (je_call (ok__law_next T) (hr.mono (by decide)) T.g__law_next T.f__law_next.k T.f__law_next.b (takes_of rfl rfl rfl rfl) (jca_cons true (je_var 0) (jca_cons false (je_var 2) jca_nil))))
      (jss_cons (js_asg 7 sc__law_swap.nd (je_call (ok__law_next T) (hr.mono (by decide)) T.g__law_next T.f__law_next.k T.f__law_next.b (takes_of rfl rfl rfl rfl) (jca_cons true (je_var 0) (jca_cons false (je_var 2) jca_nil))))
      (jss_cons (js_asgT (je_tup (jf_cons (je_ix rfl hu1 (je_var 5) (je_var 7)) (jf_cons (je_ix rfl hu1 (je_var 5) (je_var 6)) jf_nil))) (jg_tup 2 rfl (jgs_cons (jg_sub (E := noE) (je_var 5) (je_var 6)) (jgs_cons (jg_sub (E := noE) (je_var 5) (je_var 7)) jgs_nil))))
      (jss_one (js_expr (je_bm PySem.F.slot_list_append PySem.F.type_list_append mt_append rd_append (je_var 3) (jf_cons (je_callTy call_tupleW rd_tupleW T.n_tuple (ja_cons (je_var 5) ja_nil) (by decide +kernel)) jf_nil)))))))))
      (jss_one (js_ret (je_callTy call_tupleW rd_tupleW T.n_tuple (ja_cons (je_var 3) ja_nil) (by decide +kernel))))))))
/-! ### _law_command -/
theorem sc__law_command : FnScope ["_law_stream_here", "_law_rank", "_law_state", "_law_given", "_law_bounds", "_law_pick", "_law_word_here"] ["_law_stream_here", "_law_rank", "_law_state"] (defScope s__law_command) := ⟨rfl, rfl, rfl, by decide +kernel, rfl, by decide +kernel, by decide +kernel⟩
theorem ok__law_command (T : Txt K mg a) : FnOk P w K mg base (L2.CX P w) 4 a.a__law_command a.d__law_command ["_law_stream_here", "_law_rank", "_law_state"] (spF (G K a) 3 f__law_command) :=
  fn_ok [0] T.f__law_command.F sc__law_command (by decide) (fun _ _ => .inr (.inl rfl)) (fun cdv A outer s H E hr => by
    have hu : (A.deeper _).units + 64 < cLine := hr.units
    have hu1 := hu_of hr
    have hu5 := hu5_of hr
    exact (jss_cons (js_asgT (je_var 2) (jg_tup 2 rfl (jgs_cons (jg_name 3 sc__law_command.nd) (jgs_cons (jg_name 4 sc__law_command.nd) jgs_nil))))
      (jss_cons (js_asg 5 sc__law_command.nd (je_call (ok__law_next T) (hr.mono (by decide)) T.g__law_next T.f__law_next.k T.f__law_next.b (takes_of rfl rfl rfl rfl) (jca_cons true (je_var 0) (jca_cons false je_int jca_nil))))
      (jss_cons (js_if (jt_cmp op_lt rd_lt (je_var 5) je_int) (jss_cons (js_asg 6 sc__law_command.nd (je_call (ok__law_word T) (hr.mono (by decide)) T.g__law_word T.f__law_word.k T.f__law_word.b (takes_of rfl rfl rfl rfl) (jca_cons true (je_var 0) (jca_cons false (je_var 1) (jca_cons false je_int jca_nil)))))
      (jss_cons (js_if (jt_w (jw_and (jt_truth rfl (je_var 4)) (jw_and1 (jt_cmp (op_eqA hu) rd_eq (je_call (ok__law_next T) (hr.mono (by decide)) T.g__law_next T.f__law_next.k T.f__law_next.b (takes_of rfl rfl rfl rfl) (jca_cons true (je_var 0) (jca_cons false je_int jca_nil))) je_int)))) (jss_one (js_asg 6 sc__law_command.nd (je_bin op_addA rd_add (je_var 6) (je_call (ok__law_inverse T) (hr.mono (by decide)) T.g__law_inverse T.f__law_inverse.k T.f__law_inverse.b (takes_of rfl rfl rfl rfl) (jca_cons false (je_sl10 rfl (je_var 6) je_int) jca_nil))))) jss_nil)
      (jss_cons (js_if (jt_cmp (op_eqA hu) rd_eq (je_call (ok__law_next T) (hr.mono (by decide)) T.g__law_next T.f__law_next.k T.f__law_next.b (takes_of rfl rfl rfl rfl) (jca_cons true (je_var 0) (jca_cons false je_int jca_nil))) je_int) (jss_one (js_asg 6 sc__law_command.nd (je_bin op_addA rd_add (je_sl01 rfl (je_var 6) je_int) (je_sl01 rfl (je_var 6) je_int)))) jss_nil)
      (jss_one (js_ret (je_tup (jf_cons (je_str [103, 105, 118, 101]) (jf_cons (je_sl01 rfl (je_var 6) je_int) jf_nil)))))))) jss_nil)
      (jss_cons (js_if (jt_cmp op_lt rd_lt (je_var 5) je_int) (jss_one (js_ret (je_tup (jf_cons (je_str [98, 105, 110, 100]) (jf_cons (je_call (ok__law_swap T) (hr.mono (by decide)) T.g__law_swap T.f__law_swap.k T.f__law_swap.b (takes_of rfl rfl rfl rfl) (jca_cons true (je_var 0) (jca_cons false (je_var 1) jca_nil))) jf_nil))))) jss_nil)
      (jss_one (js_ret (je_tup (jf_cons (je_ix rfl hu1 (je_lst (jf_cons (je_str [100, 114, 111, 112]) (jf_cons (je_str [108, 111, 111, 115, 101]) jf_nil))) (je_callTy call_int1 rd_int T.n_int (ja_cons (je_cmp (op_eqA hu) rd_eq (je_var 5) je_int) ja_nil) (by decide +kernel))) (jf_cons (je_call (ok__law_next T) (hr.mono (by decide)) T.g__law_next T.f__law_next.k T.f__law_next.b (takes_of rfl rfl rfl rfl) (jca_cons true (je_var 0) (jca_cons false je_int jca_nil))) jf_nil))))))))))
/-! ### _law_why_not -/
theorem sc__law_why_not : FnScope ["_law_state", "_law_command_here", "_law_given", "_law_bounds", "_law_kind", "_law_value", "_law_bound", "_law_word_here"] ["_law_state", "_law_command_here"] (defScope s__law_why_not) := ⟨rfl, rfl, rfl, by decide +kernel, rfl, by decide +kernel, by decide +kernel⟩
theorem ok__law_why_not (T : Txt K mg a) : FnOk P w K mg base (L2.CX P w) 3 a.a__law_why_not a.d__law_why_not ["_law_state", "_law_command_here"] (spF (G K a) 2 f__law_why_not) :=
  fn_ok [] T.f__law_why_not.F sc__law_why_not (by decide) (fun _ _ => .inr (.inl rfl)) (fun cdv A outer s H E hr => by
    have hu : (A.deeper _).units + 64 < cLine := hr.units
    have hu1 := hu_of hr
    have hu5 := hu5_of hr
    exact (jss_cons (js_asgT (je_var 0) (jg_tup 2 rfl (jgs_cons (jg_name 2 sc__law_why_not.nd) (jgs_cons (jg_name 3 sc__law_why_not.nd) jgs_nil))))
      (jss_cons (js_asgT (je_var 1) (jg_tup 2 rfl (jgs_cons (jg_name 4 sc__law_why_not.nd) (jgs_cons (jg_name 5 sc__law_why_not.nd) jgs_nil))))
      (jss_cons (js_if (jt_cmp (op_eqA hu) rd_eq (je_var 4) (je_str [103, 105, 118, 101])) (jss_cons (js_if (jt_cmp op_ge rd_ge (je_callB call_lenA rd_len T.n_len (ja_cons (je_var 2) ja_nil) (by decide +kernel)) je_int) (jss_one (js_ret (je_str [109, 97, 110, 121]))) jss_nil)
      (jss_one (js_ret (je_ix rfl hu1 (je_lst (jf_cons (je_str [98, 111, 117, 110, 100]) (jf_cons (je_str []) jf_nil))) (je_callTy call_int1 rd_int T.n_int (ja_cons (je_callB (cr_all rfl) rd_all T.n_all (ja_cons (je_lc (own := [("_law_bound", 6)]) [6] rfl sc__law_why_not.nd (ji_val rfl (je_var 3)) (blk_of (by kernel_rfl)) (fun s_ H_ C_ cl_ fp_ => (jg_name 6 sc__law_why_not.nd)) (fun s_ H_ C_ cl_ fp_ => jc_nil) (fun s_ H_ C_ cl_ fp_ => (je_call (ok__law_returns T) (hr.mono (by decide)) T.g__law_returns T.f__law_returns.k T.f__law_returns.b takes0 (jca_cons false (je_var 6) (jca_cons false (je_var 5) jca_nil))))) ja_nil) (by decide +kernel)) ja_nil) (by decide +kernel)))))) jss_nil)
      (jss_cons (js_if (jt_cmp (op_eqA hu) rd_eq (je_var 4) (je_str [98, 105, 110, 100])) (jss_cons (js_if (jt_cmp op_ge rd_ge (je_callB call_lenA rd_len T.n_len (ja_cons (je_var 3) ja_nil) (by decide +kernel)) je_int) (jss_one (js_ret (je_str [109, 97, 110, 121]))) jss_nil)
      (jss_one (js_ret (je_ix rfl hu1 (je_lst (jf_cons (je_str [119, 111, 114, 100]) (jf_cons (je_str []) jf_nil))) (je_callTy call_int1 rd_int T.n_int (ja_cons (je_callB (cr_all rfl) rd_all T.n_all (ja_cons (je_lc (own := [("_law_word_here", 7)]) [7] rfl sc__law_why_not.nd (ji_val rfl (je_var 2)) (blk_of (by kernel_rfl)) (fun s_ H_ C_ cl_ fp_ => (jg_name 7 sc__law_why_not.nd)) (fun s_ H_ C_ cl_ fp_ => jc_nil) (fun s_ H_ C_ cl_ fp_ => (je_call (ok__law_returns T) (hr.mono (by decide)) T.g__law_returns T.f__law_returns.k T.f__law_returns.b takes0 (jca_cons false (je_var 5) (jca_cons false (je_var 7) jca_nil))))) ja_nil) (by decide +kernel)) ja_nil) (by decide +kernel)))))) jss_nil)
      (jss_cons (js_if (jt_cmp (op_eqA hu) rd_eq (je_var 4) (je_str [100, 114, 111, 112])) (jss_one (js_ret (je_ix rfl hu1 (je_lst (jf_cons (je_str [109, 105, 115, 115, 105, 110, 103]) (jf_cons (je_str []) jf_nil))) (je_callTy call_int1 rd_int T.n_int (ja_cons (je_cmp op_lt rd_lt (je_var 5) (je_callB call_lenA rd_len T.n_len (ja_cons (je_var 2) ja_nil) (by decide +kernel))) ja_nil) (by decide +kernel))))) jss_nil)
      (jss_one (js_ret (je_ix rfl hu1 (je_lst (jf_cons (je_str [109, 105, 115, 115, 105, 110, 103]) (jf_cons (je_str []) jf_nil))) (je_callTy call_int1 rd_int T.n_int (ja_cons (je_cmp op_lt rd_lt (je_var 5) (je_callB call_lenA rd_len T.n_len (ja_cons (je_var 3) ja_nil) (by decide +kernel))) ja_nil) (by decide +kernel)))))))))))
/-! ### _law_behind -/
theorem sc__law_behind : FnScope ["_law_state", "_law_command_here", "_law_given", "_law_bounds", "_law_kind", "_law_value"] ["_law_state", "_law_command_here"] (defScope s__law_behind) := ⟨rfl, rfl, rfl, by decide +kernel, rfl, by decide +kernel, by decide +kernel⟩
theorem ok__law_behind (T : Txt K mg a) : FnOk P w K mg base (L2.CX P w) 2 a.a__law_behind a.d__law_behind ["_law_state", "_law_command_here"] (spF (G K a) 2 f__law_behind) :=
  fn_ok [] T.f__law_behind.F sc__law_behind (by decide) (fun _ _ => .inr (.inl rfl)) (fun cdv A outer s H E hr => by
    have hu : (A.deeper _).units + 64 < cLine := hr.units
    have hu1 := hu_of hr
    have hu5 := hu5_of hr
    exact (jss_cons (js_asgT (je_var 0) (jg_tup 2 rfl (jgs_cons (jg_name 2 sc__law_behind.nd) (jgs_cons (jg_name 3 sc__law_behind.nd) jgs_nil))))
      (jss_cons (js_asgT (je_var 1) (jg_tup 2 rfl (jgs_cons (jg_name 4 sc__law_behind.nd) (jgs_cons (jg_name 5 sc__law_behind.nd) jgs_nil))))
      (jss_cons (js_if (jt_cmp (op_eqA hu) rd_eq (je_var 4) (je_str [103, 105, 118, 101])) (jss_one (js_ret (je_tup (jf_cons (je_bin op_addA rd_add (je_var 2) (je_tup (jf_cons (je_var 5) jf_nil))) (jf_cons (je_var 3) jf_nil))))) jss_nil)
      (jss_cons (js_if (jt_cmp (op_eqA hu) rd_eq (je_var 4) (je_str [98, 105, 110, 100])) (jss_one (js_ret (je_tup (jf_cons (je_var 2) (jf_cons (je_bin op_addA rd_add (je_var 3) (je_tup (jf_cons (je_var 5) jf_nil))) jf_nil))))) jss_nil)
      (jss_cons (js_if (jt_cmp (op_eqA hu) rd_eq (je_var 4) (je_str [100, 114, 111, 112])) (jss_one (js_ret (je_tup (jf_cons (je_bin op_addA rd_add (je_sl01 rfl (je_var 2) (je_var 5)) (je_sl10 rfl (je_var 2) (je_bin op_addA rd_add (je_var 5) je_int))) (jf_cons (je_var 3) jf_nil))))) jss_nil)
      (jss_one (js_ret (je_tup (jf_cons (je_var 2) (jf_cons (je_bin op_addA rd_add (je_sl01 rfl (je_var 3) (je_var 5)) (je_sl10 rfl (je_var 3) (je_bin op_addA rd_add (je_var 5) je_int))) jf_nil)))))))))))
/-! ### _law_product -/
theorem sc__law_product : FnScope ["_law_stream_here", "_law_given", "_law_most", "_law_whole", "_law_turn", "_law_word_here"] ["_law_stream_here", "_law_given", "_law_most"] (defScope s__law_product) := ⟨rfl, rfl, rfl, by decide +kernel, rfl, by decide +kernel, by decide +kernel⟩
theorem ok__law_product (T : Txt K mg a) : FnOk P w K mg base (L2.CX P w) 4 a.a__law_product a.d__law_product ["_law_stream_here", "_law_given", "_law_most"] (spF (G K a) 3 f__law_product) :=
  fn_ok [0] T.f__law_product.F sc__law_product (by decide) (fun _ _ => .inr (.inl rfl)) (fun cdv A outer s H E hr => by
    have hu : (A.deeper _).units + 64 < cLine := hr.units
    have hu1 := hu_of hr
    have hu5 := hu5_of hr
    exact (jss_cons (js_asg 3 sc__law_product.nd (je_str []))
      (jss_cons (js_for (passes_of rfl) rfl (ji_range1 T.n_range (ja_cons (je_call (ok__law_next T) (hr.mono (by decide)) T.g__law_next T.f__law_next.k T.f__law_next.b (takes_of rfl rfl rfl rfl) (jca_cons true (je_var 0) (jca_cons false je_int jca_nil))) ja_nil)) (jg_name 4 sc__law_product.nd) (jss_one (js_if (jt_truth rfl (je_var 1)) (jss_cons (js_asg 5 sc__law_product.nd (je_ix rfl hu1 (je_var 1) (je_call (ok__law_next T) (hr.mono (by decide)) T.g__law_next T.f__law_next.k T.f__law_next.b (takes_of rfl rfl rfl rfl) (jca_cons true (je_var 0) (jca_cons false (je_callB call_lenA rd_len T.n_len (ja_cons (je_var 1) ja_nil) (by decide +kernel)) jca_nil)))))
      (jss_cons (js_if (jt_cmp (op_eqA hu) rd_eq (je_call (ok__law_next T) (hr.mono (by decide)) T.g__law_next T.f__law_next.k T.f__law_next.b (takes_of rfl rfl rfl rfl) (jca_cons true (je_var 0) (jca_cons false je_int jca_nil))) je_int) (jss_one (js_asg 5 sc__law_product.nd (je_call (ok__law_inverse T) (hr.mono (by decide)) T.g__law_inverse T.f__law_inverse.k T.f__law_inverse.b (takes_of rfl rfl rfl rfl) (jca_cons false (je_var 5) jca_nil)))) jss_nil)
      (jss_one (js_if (jt_cmp op_le rd_le (je_callB call_lenA rd_len T.n_len (ja_cons (je_bin op_addA rd_add (je_var 3) (je_var 5)) ja_nil) (by decide +kernel)) (je_var 2)) (jss_one (js_asg 3 sc__law_product.nd (je_bin op_addA rd_add (je_var 3) (je_var 5)))) jss_nil)))) jss_nil)))
      (jss_one (js_ret (je_var 3))))))
/-! ### _law_asked -/
theorem sc__law_asked : FnScope ["_law_stream_here", "_law_rank", "_law_given"] ["_law_stream_here", "_law_rank", "_law_given"] (defScope s__law_asked) := ⟨rfl, rfl, rfl, by decide +kernel, rfl, by decide +kernel, by decide +kernel⟩
theorem ok__law_asked (T : Txt K mg a) : FnOk P w K mg base (L2.CX P w) 5 a.a__law_asked a.d__law_asked ["_law_stream_here", "_law_rank", "_law_given"] (spF (G K a) 3 f__law_asked) :=
  fn_ok [0] T.f__law_asked.F sc__law_asked (by decide) (fun _ _ => .inr (.inl rfl)) (fun cdv A outer s H E hr => by
    have hu : (A.deeper _).units + 64 < cLine := hr.units
    have hu1 := hu_of hr
    have hu5 := hu5_of hr
    exact (jss_cons (js_if (jt_cmp (op_eqA hu) rd_eq (je_call (ok__law_next T) (hr.mono (by decide)) T.g__law_next T.f__law_next.k T.f__law_next.b (takes_of rfl rfl rfl rfl) (jca_cons true (je_var 0) (jca_cons false je_int jca_nil))) je_int) (jss_one (js_ret (je_call (ok__law_product T) (hr.mono (by decide)) T.g__law_product T.f__law_product.k T.f__law_product.b (takes_of rfl rfl rfl rfl) (jca_cons true (je_var 0) (jca_cons false (je_var 2) (jca_cons false je_int jca_nil)))))) jss_nil)
      (jss_one (js_ret (je_call (ok__law_word T) (hr.mono (by decide)) T.g__law_word T.f__law_word.k T.f__law_word.b (takes_of rfl rfl rfl rfl) (jca_cons true (je_var 0) (jca_cons false (je_var 1) (jca_cons false je_int jca_nil))))))))
/-! ### is_between -/
theorem sc_is_between : FnScope ["value", "low", "high"] ["value", "low", "high"] (defScope s_is_between) := ⟨rfl, rfl, rfl, by decide +kernel, rfl, by decide +kernel, by decide +kernel⟩
theorem ok_is_between (T : Txt K mg a) : FnOk P w K mg base (L2.CX P w) 2 a.a_is_between a.d_is_between ["value", "low", "high"] (spF (G K a) 3 f_is_between) :=
  fn_ok [] T.f_is_between.F sc_is_between (by decide) (fun _ _ => .inr (.inl rfl)) (fun cdv A outer s H E hr => by
    have hu : (A.deeper _).units + 64 < cLine := hr.units
    have hu1 := hu_of hr
    have hu5 := hu5_of hr
    exact (jss_one (js_ret (je_and (je_isi "int" rfl T.n_isinstance (je_var 0) (tC_ty T.n_int PyProof.Rows.boot_int)) (je_and (je_not (je_isi "bool" rfl T.n_isinstance (je_var 0) (tC_ty T.n_bool PyProof.Rows.boot_bool))) (je_one (je_chain op_le rd_le op_le rd_le (je_var 1) (je_var 0) (je_var 2))))))))
/-! ### is_rank -/
theorem sc_is_rank : FnScope ["value"] ["value"] (defScope s_is_rank) := ⟨rfl, rfl, rfl, by decide +kernel, rfl, by decide +kernel, by decide +kernel⟩
theorem ok_is_rank (T : Txt K mg a) : FnOk P w K mg base (L2.CX P w) 3 a.a_is_rank a.d_is_rank ["value"] (spF (G K a) 1 f_is_rank) :=
  fn_ok [] T.f_is_rank.F sc_is_rank (by decide) (fun _ _ => .inr (.inl rfl)) (fun cdv A outer s H E hr => by
    have hu : (A.deeper _).units + 64 < cLine := hr.units
    have hu1 := hu_of hr
    have hu5 := hu5_of hr
    exact (jss_one (js_ret (je_call (ok_is_between T) (hr.mono (by decide)) T.g_is_between T.f_is_between.k T.f_is_between.b (takes_of rfl rfl rfl rfl) (jca_cons false (je_var 0) (jca_cons false je_int (jca_cons false (je_gint T.v_MOST_RANK) jca_nil)))))))
/-! ### letters_of -/
theorem sc_letters_of : FnScope ["rank"] ["rank"] (defScope s_letters_of) := ⟨rfl, rfl, rfl, by decide +kernel, rfl, by decide +kernel, by decide +kernel⟩
theorem ok_letters_of (T : Txt K mg a) : FnOk P w K mg base (L2.CX P w) 2 a.a_letters_of a.d_letters_of ["rank"] (spF (G K a) 1 f_letters_of) :=
  fn_ok [] T.f_letters_of.F sc_letters_of (by decide) (fun _ _ => .inr (.inl rfl)) (fun cdv A outer s H E hr => by
    have hu : (A.deeper _).units + 64 < cLine := hr.units
    have hu1 := hu_of hr
    have hu5 := hu5_of hr
    exact (jss_one (js_ret (je_sl01 rfl (je_gstr [97, 65, 98, 66, 99, 67] T.v_LETTERS) (je_bin op_mulA rd_mul je_int (je_var 0))))))
/-! ### is_letters -/
theorem sc_is_letters : FnScope ["value", "rank", "letter"] ["value", "rank"] (defScope s_is_letters) := ⟨rfl, rfl, rfl, by decide +kernel, rfl, by decide +kernel, by decide +kernel⟩
theorem ok_is_letters (T : Txt K mg a) : FnOk P w K mg base (L2.CX P w) 3 a.a_is_letters a.d_is_letters ["value", "rank"] (spF (G K a) 2 f_is_letters) :=
  fn_ok [] T.f_is_letters.F sc_is_letters (by decide) (fun _ _ => .inr (.inl rfl)) (fun cdv A outer s H E hr => by
    have hu : (A.deeper _).units + 64 < cLine := hr.units
    have hu1 := hu_of hr
    have hu5 := hu5_of hr
    exact (jss_one (js_ret (je_and (je_isi "str" rfl T.n_isinstance (je_var 0) (tC_ty T.n_str PyProof.Rows.boot_str)) (je_one (je_callB (cr_all rfl) rd_all T.n_all (ja_cons (je_lc (own := [("letter", 2)]) [2] rfl sc_is_letters.nd (ji_val rfl (je_var 0)) (blk_of (by kernel_rfl)) (fun s_ H_ C_ cl_ fp_ => (jg_name 2 sc_is_letters.nd)) (fun s_ H_ C_ cl_ fp_ => jc_nil) (fun s_ H_ C_ cl_ fp_ => (je_cmp (op_inA hu5) rd_in (je_var 2) (je_call (ok_letters_of T) (hr.mono (by decide)) T.g_letters_of T.f_letters_of.k T.f_letters_of.b takes0 (jca_cons false (je_var 1) jca_nil))))) ja_nil) (by decide +kernel)))))))
/-! ### is_word -/
theorem sc_is_word : FnScope ["value", "rank"] ["value", "rank"] (defScope s_is_word) := ⟨rfl, rfl, rfl, by decide +kernel, rfl, by decide +kernel, by decide +kernel⟩
theorem ok_is_word (T : Txt K mg a) : FnOk P w K mg base (L2.CX P w) 4 a.a_is_word a.d_is_word ["value", "rank"] (spF (G K a) 2 f_is_word) :=
  fn_ok [] T.f_is_word.F sc_is_word (by decide) (fun _ _ => .inr (.inl rfl)) (fun cdv A outer s H E hr => by
    have hu : (A.deeper _).units + 64 < cLine := hr.units
    have hu1 := hu_of hr
    have hu5 := hu5_of hr
    exact (jss_one (js_ret (je_and (je_call (ok_is_rank T) (hr.mono (by decide)) T.g_is_rank T.f_is_rank.k T.f_is_rank.b (takes_of rfl rfl rfl rfl) (jca_cons false (je_var 1) jca_nil)) (je_and (je_call (ok_is_letters T) (hr.mono (by decide)) T.g_is_letters T.f_is_letters.k T.f_is_letters.b (takes_of rfl rfl rfl rfl) (jca_cons false (je_var 0) (jca_cons false (je_var 1) jca_nil))) (je_one (je_cmp op_le rd_le (je_callB call_lenA rd_len T.n_len (ja_cons (je_var 0) ja_nil) (by decide +kernel)) (je_gint T.v_LONGEST))))))))
/-! ### is_integer -/
theorem sc_is_integer : FnScope ["value"] ["value"] (defScope s_is_integer) := ⟨rfl, rfl, rfl, by decide +kernel, rfl, by decide +kernel, by decide +kernel⟩
theorem ok_is_integer (T : Txt K mg a) : FnOk P w K mg base (L2.CX P w) 2 a.a_is_integer a.d_is_integer ["value"] (spF (G K a) 1 f_is_integer) :=
  fn_ok [] T.f_is_integer.F sc_is_integer (by decide) (fun _ _ => .inr (.inl rfl)) (fun cdv A outer s H E hr => by
    have hu : (A.deeper _).units + 64 < cLine := hr.units
    have hu1 := hu_of hr
    have hu5 := hu5_of hr
    exact (jss_one (js_ret (je_and (je_isi "int" rfl T.n_isinstance (je_var 0) (tC_ty T.n_int PyProof.Rows.boot_int)) (je_one (je_not (je_isi "bool" rfl T.n_isinstance (je_var 0) (tC_ty T.n_bool PyProof.Rows.boot_bool))))))))
/-! ### is_permutation -/
theorem sc_is_permutation : FnScope ["value", "many", "one"] ["value", "many"] (defScope s_is_permutation) := ⟨rfl, rfl, rfl, by decide +kernel, rfl, by decide +kernel, by decide +kernel⟩
theorem ok_is_permutation (T : Txt K mg a) : FnOk P w K mg base (L2.CX P w) 3 a.a_is_permutation a.d_is_permutation ["value", "many"] (spF (G K a) 2 f_is_permutation) :=
  fn_ok [] T.f_is_permutation.F sc_is_permutation (by decide) (fun _ _ => .inr (.inl rfl)) (fun cdv A outer s H E hr => by
    have hu : (A.deeper _).units + 64 < cLine := hr.units
    have hu1 := hu_of hr
    have hu5 := hu5_of hr
    exact (jss_cons (js_if (jt_w (jw_or (jt_not (jt_val (je_isi "tuple" rfl T.n_isinstance (je_var 0) (tC_ty T.n_tuple PyProof.Rows.boot_tuple)))) (jw_or (jt_cmp (op_neA hu) rd_ne (je_callB call_lenA rd_len T.n_len (ja_cons (je_var 0) ja_nil) (by decide +kernel)) (je_var 1)) (jw_or1 (jt_not (jt_val (je_callB (cr_all rfl) rd_all T.n_all (ja_cons (je_lc (own := [("one", 2)]) [2] rfl sc_is_permutation.nd (ji_val rfl (je_var 0)) (blk_of (by kernel_rfl)) (fun s_ H_ C_ cl_ fp_ => (jg_name 2 sc_is_permutation.nd)) (fun s_ H_ C_ cl_ fp_ => jc_nil) (fun s_ H_ C_ cl_ fp_ => (je_call (ok_is_integer T) (hr.mono (by decide)) T.g_is_integer T.f_is_integer.k T.f_is_integer.b takes0 (jca_cons false (je_var 2) jca_nil)))) ja_nil) (by decide +kernel)))))))) (jss_one (js_ret je_bl)) jss_nil)
      (jss_one (js_ret (je_cmp (op_eqA hu) rd_eq (je_callB call_sortA rd_sort T.n_sorted (ja_cons (je_var 0) ja_nil) (by decide +kernel)) (je_lrg1 rfl T.n_list T.n_range (je_var 1)))))))
/-! ### is_action -/
theorem sc_is_action : FnScope ["value", "rank", "many", "one"] ["value", "rank"] (defScope s_is_action) := ⟨rfl, rfl, rfl, by decide +kernel, rfl, by decide +kernel, by decide +kernel⟩
theorem ok_is_action (T : Txt K mg a) : FnOk P w K mg base (L2.CX P w) 4 a.a_is_action a.d_is_action ["value", "rank"] (spF (G K a) 2 f_is_action) :=
  fn_ok [] T.f_is_action.F sc_is_action (by decide) (fun _ _ => .inr (.inl rfl)) (fun cdv A outer s H E hr => by
    have hu : (A.deeper _).units + 64 < cLine := hr.units
    have hu1 := hu_of hr
    have hu5 := hu5_of hr
    exact (jss_cons (js_if (jt_w (jw_or (jt_not (jt_val (je_isi "tuple" rfl T.n_isinstance (je_var 0) (tC_ty T.n_tuple PyProof.Rows.boot_tuple)))) (jw_or (jt_cmp (op_neA hu) rd_ne (je_callB call_lenA rd_len T.n_len (ja_cons (je_var 0) ja_nil) (by decide +kernel)) (je_var 1)) (jw_or (jt_not (jt_truth rfl (je_var 0))) (jw_or1 (jt_not (jt_val (je_isi "tuple" rfl T.n_isinstance (je_ix rfl hu1 (je_var 0) je_int) (tC_ty T.n_tuple PyProof.Rows.boot_tuple))))))))) (jss_one (js_ret je_bl)) jss_nil)
      (jss_cons (js_asg 2 sc_is_action.nd (je_callB call_lenA rd_len T.n_len (ja_cons (je_ix rfl hu1 (je_var 0) je_int) ja_nil) (by decide +kernel)))
      (jss_one (js_ret (je_and (je_chain op_le rd_le op_le rd_le je_int (je_var 2) (je_gint T.v_MOST_POINTS)) (je_one (je_callB (cr_all rfl) rd_all T.n_all (ja_cons (je_lc (own := [("one", 3)]) [3] rfl sc_is_action.nd (ji_val rfl (je_var 0)) (blk_of (by kernel_rfl)) (fun s_ H_ C_ cl_ fp_ => (jg_name 3 sc_is_action.nd)) (fun s_ H_ C_ cl_ fp_ => jc_nil) (fun s_ H_ C_ cl_ fp_ => (je_call (ok_is_permutation T) (hr.mono (by decide)) T.g_is_permutation T.f_is_permutation.k T.f_is_permutation.b takes0 (jca_cons false (je_var 3) (jca_cons false (je_var 2) jca_nil))))) ja_nil) (by decide +kernel)))))))))
/-! ### is_number -/
theorem sc_is_number : FnScope ["value"] ["value"] (defScope s_is_number) := ⟨rfl, rfl, rfl, by decide +kernel, rfl, by decide +kernel, by decide +kernel⟩
theorem ok_is_number (T : Txt K mg a) : FnOk P w K mg base (L2.CX P w) 2 a.a_is_number a.d_is_number ["value"] (spF (G K a) 1 f_is_number) :=
  fn_ok [] T.f_is_number.F sc_is_number (by decide) (fun _ _ => .inr (.inl rfl)) (fun cdv A outer s H E hr => by
    have hu : (A.deeper _).units + 64 < cLine := hr.units
    have hu1 := hu_of hr
    have hu5 := hu5_of hr
    exact (jss_one (js_ret (je_and (je_isi "int" rfl T.n_isinstance (je_var 0) (tC_ty T.n_int PyProof.Rows.boot_int)) (je_and (je_not (je_isi "bool" rfl T.n_isinstance (je_var 0) (tC_ty T.n_bool PyProof.Rows.boot_bool))) (je_one (je_chain op_le rd_le op_lt rd_lt je_int (je_var 0) (je_gint T.v_MOST_GIVEN))))))))
/-! ### is_command -/
theorem sc_is_command : FnScope ["value", "rank"] ["value", "rank"] (defScope s_is_command) := ⟨rfl, rfl, rfl, by decide +kernel, rfl, by decide +kernel, by decide +kernel⟩
theorem ok_is_command (T : Txt K mg a) : FnOk P w K mg base (L2.CX P w) 5 a.a_is_command a.d_is_command ["value", "rank"] (spF (G K a) 2 f_is_command) :=
  fn_ok [] T.f_is_command.F sc_is_command (by decide) (fun _ _ => .inr (.inl rfl)) (fun cdv A outer s H E hr => by
    have hu : (A.deeper _).units + 64 < cLine := hr.units
    have hu1 := hu_of hr
    have hu5 := hu5_of hr
    exact (jss_cons (js_if (jt_w (jw_or (jt_not (jt_val (je_isi "tuple" rfl T.n_isinstance (je_var 0) (tC_ty T.n_tuple PyProof.Rows.boot_tuple)))) (jw_or (jt_cmp (op_neA hu) rd_ne (je_callB call_lenA rd_len T.n_len (ja_cons (je_var 0) ja_nil) (by decide +kernel)) je_int) (jw_or1 (jt_not (jt_val (je_isi "str" rfl T.n_isinstance (je_ix rfl hu1 (je_var 0) je_int) (tC_ty T.n_str PyProof.Rows.boot_str)))))))) (jss_one (js_ret je_bl)) jss_nil)
      (jss_cons (js_if (jt_cmp (op_eqA hu) rd_eq (je_ix rfl hu1 (je_var 0) je_int) (je_str [103, 105, 118, 101])) (jss_one (js_ret (je_and (je_call (ok_is_word T) (hr.mono (by decide)) T.g_is_word T.f_is_word.k T.f_is_word.b (takes_of rfl rfl rfl rfl) (jca_cons false (je_ix rfl hu1 (je_var 0) je_int) (jca_cons false (je_var 1) jca_nil))) (je_one (je_cmp op_le rd_le (je_callB call_lenA rd_len T.n_len (ja_cons (je_ix rfl hu1 (je_var 0) je_int) ja_nil) (by decide +kernel)) (je_gint T.v_MOST_LETTERS)))))) jss_nil)
      (jss_cons (js_if (jt_cmp (op_eqA hu) rd_eq (je_ix rfl hu1 (je_var 0) je_int) (je_str [98, 105, 110, 100])) (jss_one (js_ret (je_call (ok_is_action T) (hr.mono (by decide)) T.g_is_action T.f_is_action.k T.f_is_action.b (takes_of rfl rfl rfl rfl) (jca_cons false (je_ix rfl hu1 (je_var 0) je_int) (jca_cons false (je_var 1) jca_nil))))) jss_nil)
      (jss_one (js_ret (je_and (je_cmp (op_inA hu5) rd_in (je_ix rfl hu1 (je_var 0) je_int) (je_tup (jf_cons (je_str [100, 114, 111, 112]) (jf_cons (je_str [108, 111, 111, 115, 101]) jf_nil)))) (je_one (je_call (ok_is_number T) (hr.mono (by decide)) T.g_is_number T.f_is_number.k T.f_is_number.b (takes_of rfl rfl rfl rfl) (jca_cons false (je_ix rfl hu1 (je_var 0) je_int) jca_nil))))))))))
/-! ### without -/
theorem sc_without : FnScope ["row", "number"] ["row", "number"] (defScope s_without) := ⟨rfl, rfl, rfl, by decide +kernel, rfl, by decide +kernel, by decide +kernel⟩
theorem ok_without (T : Txt K mg a) : FnOk P w K mg base (L2.CX P w) 3 a.a_without a.d_without ["row", "number"] (spF (G K a) 2 f_without) :=
  fn_ok [] T.f_without.F sc_without (by decide) (fun _ _ => .inr (.inl rfl)) (fun cdv A outer s H E hr => by
    have hu : (A.deeper _).units + 64 < cLine := hr.units
    have hu1 := hu_of hr
    have hu5 := hu5_of hr
    exact (jss_cons (js_if (jt_cmp op_ge rd_ge (je_var 1) (je_callB call_lenA rd_len T.n_len (ja_cons (je_var 0) ja_nil) (by decide +kernel))) (jss_one (js_raise1 4 rfl T.e_NotPossible.T T.e_NotPossible.iC T.e_NotPossible.tI (oki_NotPossible T) (hr.mono (by decide)) T.i_NotPossible.b (takes_of rfl rfl rfl rfl) T.e_NotPossible.g (jf_cons (je_str [109, 105, 115, 115, 105, 110, 103]) jf_nil) rfl)) jss_nil)
      (jss_one (js_ret (je_bin op_addA rd_add (je_sl01 rfl (je_var 0) (je_var 1)) (je_sl10 rfl (je_var 0) (je_bin op_addA rd_add (je_var 1) je_int)))))))
/-! ### image_by -/
theorem sc_image_by : FnScope ["action", "point", "letter", "row"] ["action", "point", "letter"] (defScope s_image_by) := ⟨rfl, rfl, rfl, by decide +kernel, rfl, by decide +kernel, by decide +kernel⟩
theorem ok_image_by (T : Txt K mg a) : FnOk P w K mg base (L2.CX P w) 2 a.a_image_by a.d_image_by ["action", "point", "letter"] (spF (G K a) 3 f_image_by) :=
  fn_ok [] T.f_image_by.F sc_image_by (by decide) (fun _ _ => .inr (.inl rfl)) (fun cdv A outer s H E hr => by
    have hu : (A.deeper _).units + 64 < cLine := hr.units
    have hu1 := hu_of hr
    have hu5 := hu5_of hr
    exact (jss_cons (js_asg 3 sc_image_by.nd (je_ix rfl hu1 (je_var 0) (je_rm rfl PySem.F.plainAttrs_str PySem.F.slot_str_index PySem.F.type_str_index mt_sindex rd_sindex (je_gstr [97, 98, 99] T.v_SMALL) (ja_cons (je_rm0 rfl PySem.F.plainAttrs_str PySem.F.slot_str_lower PySem.F.type_str_lower mt_lower (rd_s1 (by decide)) (je_var 2)) ja_nil))))
      (jss_one (js_ret (je_if (jt_cmp (op_inA hu5) rd_in (je_var 2) (je_gstr [97, 98, 99] T.v_SMALL)) (je_ix rfl hu1 (je_var 3) (je_var 1)) (je_tix rfl (je_var 3) (ja_cons (je_var 1) ja_nil)))))))
/-! ### image_of -/
theorem sc_image_of : FnScope ["action", "point", "word", "letter"] ["action", "point", "word"] (defScope s_image_of) := ⟨rfl, rfl, rfl, by decide +kernel, rfl, by decide +kernel, by decide +kernel⟩
theorem ok_image_of (T : Txt K mg a) : FnOk P w K mg base (L2.CX P w) 3 a.a_image_of a.d_image_of ["action", "point", "word"] (spF (G K a) 3 f_image_of) :=
  fn_ok [] T.f_image_of.F sc_image_of (by decide) (fun _ _ => .inr (.inl rfl)) (fun cdv A outer s H E hr => by
    have hu : (A.deeper _).units + 64 < cLine := hr.units
    have hu1 := hu_of hr
    have hu5 := hu5_of hr
    exact (jss_cons (js_for (passes_of rfl) rfl (ji_val rfl (je_var 2)) (jg_name 3 sc_image_of.nd) (jss_one (js_asg 1 sc_image_of.nd (je_call (ok_image_by T) (hr.mono (by decide)) T.g_image_by T.f_image_by.k T.f_image_by.b (takes_of rfl rfl rfl rfl) (jca_cons false (je_var 0) (jca_cons false (je_var 1) (jca_cons false (je_var 3) jca_nil)))))))
      (jss_one (js_ret (je_var 1)))))
/-! ### returns_in -/
theorem sc_returns_in : FnScope ["action", "word"] ["action", "word"] (defScope s_returns_in) := ⟨rfl, rfl, rfl, by decide +kernel, rfl, by decide +kernel, by decide +kernel⟩
theorem ok_returns_in (T : Txt K mg a) : FnOk P w K mg base (L2.CX P w) 4 a.a_returns_in a.d_returns_in ["action", "word"] (spF (G K a) 2 f_returns_in) :=
  fn_ok [] T.f_returns_in.F sc_returns_in (by decide) (fun _ _ => .inr (.inl rfl)) (fun cdv A outer s H E hr => by
    have hu : (A.deeper _).units + 64 < cLine := hr.units
    have hu1 := hu_of hr
    have hu5 := hu5_of hr
    exact (jss_one (js_ret (je_cmp (op_eqA hu) rd_eq (je_call (ok_image_of T) (hr.mono (by decide)) T.g_image_of T.f_image_of.k T.f_image_of.b (takes_of rfl rfl rfl rfl) (jca_cons false (je_var 0) (jca_cons false je_int (jca_cons false (je_var 1) jca_nil)))) je_int))))
/-! ### with_word -/
theorem sc_with_word : FnScope ["given", "bounds", "word", "bound"] ["given", "bounds", "word"] (defScope s_with_word) := ⟨rfl, rfl, rfl, by decide +kernel, rfl, by decide +kernel, by decide +kernel⟩
theorem ok_with_word (T : Txt K mg a) : FnOk P w K mg base (L2.CX P w) 5 a.a_with_word a.d_with_word ["given", "bounds", "word"] (spF (G K a) 3 f_with_word) :=
  fn_ok [] T.f_with_word.F sc_with_word (by decide) (fun _ _ => .inr (.inl rfl)) (fun cdv A outer s H E hr => by
    have hu : (A.deeper _).units + 64 < cLine := hr.units
    have hu1 := hu_of hr
    have hu5 := hu5_of hr
    exact (jss_cons (js_if (jt_cmp op_ge rd_ge (je_callB call_lenA rd_len T.n_len (ja_cons (je_var 0) ja_nil) (by decide +kernel)) (je_gint T.v_MOST_GIVEN)) (jss_one (js_raise1 4 rfl T.e_NotPossible.T T.e_NotPossible.iC T.e_NotPossible.tI (oki_NotPossible T) (hr.mono (by decide)) T.i_NotPossible.b (takes_of rfl rfl rfl rfl) T.e_NotPossible.g (jf_cons (je_str [109, 97, 110, 121]) jf_nil) rfl)) jss_nil)
      (jss_cons (js_if (jt_not (jt_val (je_callB (cr_all rfl) rd_all T.n_all (ja_cons (je_lc (own := [("bound", 3)]) [3] rfl sc_with_word.nd (ji_val rfl (je_var 1)) (blk_of (by kernel_rfl)) (fun s_ H_ C_ cl_ fp_ => (jg_name 3 sc_with_word.nd)) (fun s_ H_ C_ cl_ fp_ => jc_nil) (fun s_ H_ C_ cl_ fp_ => (je_call (ok_returns_in T) (hr.mono (by decide)) T.g_returns_in T.f_returns_in.k T.f_returns_in.b takes0 (jca_cons false (je_var 3) (jca_cons false (je_var 2) jca_nil))))) ja_nil) (by decide +kernel)))) (jss_one (js_raise1 4 rfl T.e_NotPossible.T T.e_NotPossible.iC T.e_NotPossible.tI (oki_NotPossible T) (hr.mono (by decide)) T.i_NotPossible.b (takes_of rfl rfl rfl rfl) T.e_NotPossible.g (jf_cons (je_str [98, 111, 117, 110, 100]) jf_nil) rfl)) jss_nil)
      (jss_one (js_ret (je_bin op_addA rd_add (je_var 0) (je_tup (jf_cons (je_var 2) jf_nil))))))))
/-! ### with_bound -/
theorem sc_with_bound : FnScope ["given", "bounds", "action", "word"] ["given", "bounds", "action"] (defScope s_with_bound) := ⟨rfl, rfl, rfl, by decide +kernel, rfl, by decide +kernel, by decide +kernel⟩
theorem ok_with_bound (T : Txt K mg a) : FnOk P w K mg base (L2.CX P w) 5 a.a_with_bound a.d_with_bound ["given", "bounds", "action"] (spF (G K a) 3 f_with_bound) :=
  fn_ok [] T.f_with_bound.F sc_with_bound (by decide) (fun _ _ => .inr (.inl rfl)) (fun cdv A outer s H E hr => by
    have hu : (A.deeper _).units + 64 < cLine := hr.units
    have hu1 := hu_of hr
    have hu5 := hu5_of hr
    exact (jss_cons (js_if (jt_cmp op_ge rd_ge (je_callB call_lenA rd_len T.n_len (ja_cons (je_var 1) ja_nil) (by decide +kernel)) (je_gint T.v_MOST_BOUNDS)) (jss_one (js_raise1 4 rfl T.e_NotPossible.T T.e_NotPossible.iC T.e_NotPossible.tI (oki_NotPossible T) (hr.mono (by decide)) T.i_NotPossible.b (takes_of rfl rfl rfl rfl) T.e_NotPossible.g (jf_cons (je_str [109, 97, 110, 121]) jf_nil) rfl)) jss_nil)
      (jss_cons (js_if (jt_not (jt_val (je_callB (cr_all rfl) rd_all T.n_all (ja_cons (je_lc (own := [("word", 3)]) [3] rfl sc_with_bound.nd (ji_val rfl (je_var 0)) (blk_of (by kernel_rfl)) (fun s_ H_ C_ cl_ fp_ => (jg_name 3 sc_with_bound.nd)) (fun s_ H_ C_ cl_ fp_ => jc_nil) (fun s_ H_ C_ cl_ fp_ => (je_call (ok_returns_in T) (hr.mono (by decide)) T.g_returns_in T.f_returns_in.k T.f_returns_in.b takes0 (jca_cons false (je_var 2) (jca_cons false (je_var 3) jca_nil))))) ja_nil) (by decide +kernel)))) (jss_one (js_raise1 4 rfl T.e_NotPossible.T T.e_NotPossible.iC T.e_NotPossible.tI (oki_NotPossible T) (hr.mono (by decide)) T.i_NotPossible.b (takes_of rfl rfl rfl rfl) T.e_NotPossible.g (jf_cons (je_str [119, 111, 114, 100]) jf_nil) rfl)) jss_nil)
      (jss_one (js_ret (je_bin op_addA rd_add (je_var 1) (je_tup (jf_cons (je_var 2) jf_nil))))))))
/-! ### behind -/
theorem sc_behind : FnScope ["state", "command", "given", "bounds", "kind", "value"] ["state", "command"] (defScope s_behind) := ⟨rfl, rfl, rfl, by decide +kernel, rfl, by decide +kernel, by decide +kernel⟩
theorem ok_behind (T : Txt K mg a) : FnOk P w K mg base (L2.CX P w) 6 a.a_behind a.d_behind ["state", "command"] (spF (G K a) 2 f_behind) :=
  fn_ok [] T.f_behind.F sc_behind (by decide) (fun _ _ => .inr (.inl rfl)) (fun cdv A outer s H E hr => by
    have hu : (A.deeper _).units + 64 < cLine := hr.units
    have hu1 := hu_of hr
    have hu5 := hu5_of hr
    exact (jss_cons (js_asgT (je_var 0) (jg_tup 2 rfl (jgs_cons (jg_name 2 sc_behind.nd) (jgs_cons (jg_name 3 sc_behind.nd) jgs_nil))))
      (jss_cons (js_asgT (je_var 1) (jg_tup 2 rfl (jgs_cons (jg_name 4 sc_behind.nd) (jgs_cons (jg_name 5 sc_behind.nd) jgs_nil))))
      (jss_cons (js_if (jt_cmp (op_eqA hu) rd_eq (je_var 4) (je_str [103, 105, 118, 101])) (jss_one (js_ret (je_tup (jf_cons (je_call (ok_with_word T) (hr.mono (by decide)) T.g_with_word T.f_with_word.k T.f_with_word.b (takes_of rfl rfl rfl rfl) (jca_cons false (je_var 2) (jca_cons false (je_var 3) (jca_cons false (je_var 5) jca_nil)))) (jf_cons (je_var 3) jf_nil))))) jss_nil)
      (jss_cons (js_if (jt_cmp (op_eqA hu) rd_eq (je_var 4) (je_str [100, 114, 111, 112])) (jss_one (js_ret (je_tup (jf_cons (je_call (ok_without T) (hr.mono (by decide)) T.g_without T.f_without.k T.f_without.b (takes_of rfl rfl rfl rfl) (jca_cons false (je_var 2) (jca_cons false (je_var 5) jca_nil))) (jf_cons (je_var 3) jf_nil))))) jss_nil)
      (jss_cons (js_if (jt_cmp (op_eqA hu) rd_eq (je_var 4) (je_str [98, 105, 110, 100])) (jss_one (js_ret (je_tup (jf_cons (je_var 2) (jf_cons (je_call (ok_with_bound T) (hr.mono (by decide)) T.g_with_bound T.f_with_bound.k T.f_with_bound.b (takes_of rfl rfl rfl rfl) (jca_cons false (je_var 2) (jca_cons false (je_var 3) (jca_cons false (je_var 5) jca_nil)))) jf_nil))))) jss_nil)
      (jss_one (js_ret (je_tup (jf_cons (je_var 2) (jf_cons (je_call (ok_without T) (hr.mono (by decide)) T.g_without T.f_without.k T.f_without.b (takes_of rfl rfl rfl rfl) (jca_cons false (je_var 3) (jca_cons false (je_var 5) jca_nil))) jf_nil)))))))))))
/-! ### Workspace_act -/
theorem sc_Workspace_act : FnScope ["self", "command", "state"] ["self", "command"] (defScope s_Workspace_act) := ⟨rfl, rfl, rfl, by decide +kernel, rfl, by decide +kernel, by decide +kernel⟩
theorem ok_Workspace_act (T : Txt K mg a) : FnOk P w K mg base (L2.CX P w) 7 a.a_Workspace_act a.d_Workspace_act ["self", "command"] (spF (G K a) 2 f_Workspace_act) :=
  fn_ok [0] T.f_Workspace_act.F sc_Workspace_act (by decide) (fun _ _ => .inr (.inl rfl)) (fun cdv A outer s H E hr => by
    have hu : (A.deeper _).units + 64 < cLine := hr.units
    have hu1 := hu_of hr
    have hu5 := hu5_of hr
    exact (jss_cons (js_if (jt_not (jt_val (je_call (ok_is_command T) (hr.mono (by decide)) T.g_is_command T.f_is_command.k T.f_is_command.b (takes_of rfl rfl rfl rfl) (jca_cons false (je_var 1) (jca_cons false (je_fld 12 0 (je_var 0) rfl T.cl_Workspace T.na_Workspace_rank rfl (lay_nd 12)) jca_nil))))) (jss_one (js_raise1 1 rfl T.e_BadValue.T T.e_BadValue.iC T.e_BadValue.tI (oki_BadValue T) (hr.mono (by decide)) T.i_BadValue.b (takes_of rfl rfl rfl rfl) T.e_BadValue.g (jf_cons (je_str [99, 111, 109, 109, 97, 110, 100]) jf_nil) rfl)) jss_nil)
      (jss_cons (js_asg 2 sc_Workspace_act.nd (je_call (ok_behind T) (hr.mono (by decide)) T.g_behind T.f_behind.k T.f_behind.b (takes_of rfl rfl rfl rfl) (jca_cons false (je_ix rfl hu1 (je_fld 12 1 (je_var 0) rfl T.cl_Workspace T.na_Workspace_states rfl (lay_nd 12)) (je_neg je_int)) (jca_cons false (je_var 1) jca_nil))))
      (jss_cons (js_if (jt_cmp op_ge rd_ge (je_callB call_lenA rd_len T.n_len (ja_cons (je_fld 12 2 (je_var 0) rfl T.cl_Workspace T.na_Workspace_commands rfl (lay_nd 12)) ja_nil) (by decide +kernel)) (je_gint T.v_MOST_COMMANDS)) (jss_one (js_raise1 3 rfl T.e_TooLarge.T T.e_TooLarge.iC T.e_TooLarge.tI (oki_TooLarge T) (hr.mono (by decide)) T.i_TooLarge.b (takes_of rfl rfl rfl rfl) T.e_TooLarge.g (jf_cons (je_str [99, 111, 109, 109, 97, 110, 100, 115]) jf_nil) rfl)) jss_nil)
      (jss_cons (js_expr (je_bm PySem.F.slot_list_append PySem.F.type_list_append mt_append rd_append (je_fld 12 1 (je_var 0) rfl T.cl_Workspace T.na_Workspace_states rfl (lay_nd 12)) (jf_cons (je_var 2) jf_nil)))
      (jss_cons (js_fldS 12 2 (je_var 0) (je_bin op_addA rd_add (je_fld 12 2 (je_var 0) rfl T.cl_Workspace T.na_Workspace_commands rfl (lay_nd 12)) (je_tup (jf_cons (je_var 1) jf_nil))) rfl T.cl_Workspace T.na_Workspace_commands rfl (lay_nd 12) (show (lay 12).length < 1000 by decide))
      (jss_one (js_ret (je_callB call_lenA rd_len T.n_len (ja_cons (je_fld 12 2 (je_var 0) rfl T.cl_Workspace T.na_Workspace_commands rfl (lay_nd 12)) ja_nil) (by decide +kernel))))))))))
/-! ### _law_told -/
def m__law_told : M Fl :=
  (tryM (retM (methM 12 f_Workspace_act (ldM 0) [(false, (ldM 1))])) [⟨(fun n => match n with | 1 => some false | 3 => some false | 4 => some true | _ => none), (tupX [(fun _ => some (.str [110, 111, 116])), (fldX 4 0)])⟩])
def f__law_told : Fn := bodyF 3 [0] m__law_told
theorem sc__law_told : FnScope ["_law_space", "_law_command_here", "e"] ["_law_space", "_law_command_here"] (defScope s__law_told) := ⟨rfl, rfl, rfl, by decide +kernel, rfl, by decide +kernel, by decide +kernel⟩
theorem ok__law_told (T : Txt K mg a) : FnOk P w K mg base (L2.CX P w) 8 a.a__law_told a.d__law_told ["_law_space", "_law_command_here"] (spF (G K a) 2 f__law_told) :=
  fn_ok [0] T.f__law_told.F sc__law_told (by decide) (fun _ _ => .inr (.inl rfl)) (fun cdv A outer s H E hr => by
    have hu : (A.deeper _).units + 64 < cLine := hr.units
    have hu1 := hu_of hr
    have hu5 := hu5_of hr
    exact (jss_one (js_try rfl rfl sc__law_told.nd (takes_of rfl rfl rfl rfl) (fun W_ pn_ xe_ tk_ po_ => (jss_one (js_ret (je_meth 12 (je_var 0) T.cl_Workspace T.me_Workspace_act (ok_Workspace_act T) (hr.mono (by decide)) T.f_Workspace_act.b tk_ (jca_cons false (je_var 1) jca_nil) (show ("act" : Str) ∉ lay 12 by decide +kernel)))))
      (HdG.consA (i := 2) ⟨rfl, by decide, Or.inl T.gl_NotPossible⟩ rfl rfl (fun a_ oe_ cls_ d_ pn_ hz_ hf_ => (jvs_ret (jv_tup (jvs_cons (jv_str [110, 111, 116]) (jvs_cons (jv_fld (k := 2) 4 0 rfl T.e_NotPossible.xf T.no_NotPossible_why rfl (lay_nd 4) (by exact fun a_ oe_ pn_ => pv 2)) jvs_nil)))) a_ oe_ cls_ d_ pn_ hz_ hf_)
      HdG.nil)
      (HdsM.cons (fun n b hb => by
        match n, hb with
        | 1, hb => cases hb; exact exm_of T.xf_NotPossible T.ty_NotPossible T.sub_BadValue_NotPossible
        | 3, hb => cases hb; exact exm_of T.xf_NotPossible T.ty_NotPossible T.sub_TooLarge_NotPossible
        | 4, hb => cases hb; exact exm_of T.xf_NotPossible T.ty_NotPossible T.sub_NotPossible_NotPossible) su_ok
      HdsM.nil))))
/-! ### Workspace_init -/
theorem sc_Workspace_init : FnScope ["self", "rank"] ["self", "rank"] (defScope s_Workspace_init) := ⟨rfl, rfl, rfl, by decide +kernel, rfl, by decide +kernel, by decide +kernel⟩
theorem ok_Workspace_init (T : Txt K mg a) : FnOk P w K mg base (L2.CX P w) 4 a.a_Workspace_init a.d_Workspace_init ["self", "rank"] (spF (G K a) 2 f_Workspace_init) :=
  fn_ok [0] T.f_Workspace_init.F sc_Workspace_init (by decide) (fun _ _ => .inr (.inl rfl)) (fun cdv A outer s H E hr => by
    have hu : (A.deeper _).units + 64 < cLine := hr.units
    have hu1 := hu_of hr
    have hu5 := hu5_of hr
    exact (jss_cons (js_if (jt_not (jt_val (je_call (ok_is_rank T) (hr.mono (by decide)) T.g_is_rank T.f_is_rank.k T.f_is_rank.b (takes_of rfl rfl rfl rfl) (jca_cons false (je_var 1) jca_nil)))) (jss_one (js_raise1 1 rfl T.e_BadValue.T T.e_BadValue.iC T.e_BadValue.tI (oki_BadValue T) (hr.mono (by decide)) T.i_BadValue.b (takes_of rfl rfl rfl rfl) T.e_BadValue.g (jf_cons (je_str [114, 97, 110, 107]) jf_nil) rfl)) jss_nil)
      (jss_cons (js_fldS 12 0 (je_var 0) (je_var 1) rfl T.cl_Workspace T.na_Workspace_rank rfl (lay_nd 12) (show (lay 12).length < 1000 by decide))
      (jss_cons (js_fldS 12 1 (je_var 0) (je_lst (jf_cons (je_tup (jf_cons (je_tup jf_nil) (jf_cons (je_tup jf_nil) jf_nil))) jf_nil)) rfl T.cl_Workspace T.na_Workspace_states rfl (lay_nd 12) (show (lay 12).length < 1000 by decide))
      (jss_one (js_fldS 12 2 (je_var 0) (je_tup jf_nil) rfl T.cl_Workspace T.na_Workspace_commands rfl (lay_nd 12) (show (lay 12).length < 1000 by decide)))))))
/-! ### Workspace_family -/
theorem sc_Workspace_family : FnScope ["self"] ["self"] (defScope s_Workspace_family) := ⟨rfl, rfl, rfl, by decide +kernel, rfl, by decide +kernel, by decide +kernel⟩
theorem ok_Workspace_family (T : Txt K mg a) : FnOk P w K mg base (L2.CX P w) 2 a.a_Workspace_family a.d_Workspace_family ["self"] (spF (G K a) 1 f_Workspace_family) :=
  fn_ok [0] T.f_Workspace_family.F sc_Workspace_family (by decide) (fun _ _ => .inr (.inl rfl)) (fun cdv A outer s H E hr => by
    have hu : (A.deeper _).units + 64 < cLine := hr.units
    have hu1 := hu_of hr
    have hu5 := hu5_of hr
    exact (jss_one (js_ret (je_tup (jf_cons (je_fld 12 0 (je_var 0) rfl T.cl_Workspace T.na_Workspace_rank rfl (lay_nd 12)) (jf_cons (je_ix rfl hu1 (je_ix rfl hu1 (je_fld 12 1 (je_var 0) rfl T.cl_Workspace T.na_Workspace_states rfl (lay_nd 12)) (je_neg je_int)) je_int) jf_nil))))))
/-! ### Workspace_bounds -/
theorem sc_Workspace_bounds : FnScope ["self"] ["self"] (defScope s_Workspace_bounds) := ⟨rfl, rfl, rfl, by decide +kernel, rfl, by decide +kernel, by decide +kernel⟩
theorem ok_Workspace_bounds (T : Txt K mg a) : FnOk P w K mg base (L2.CX P w) 2 a.a_Workspace_bounds a.d_Workspace_bounds ["self"] (spF (G K a) 1 f_Workspace_bounds) :=
  fn_ok [0] T.f_Workspace_bounds.F sc_Workspace_bounds (by decide) (fun _ _ => .inr (.inl rfl)) (fun cdv A outer s H E hr => by
    have hu : (A.deeper _).units + 64 < cLine := hr.units
    have hu1 := hu_of hr
    have hu5 := hu5_of hr
    exact (jss_one (js_ret (je_ix rfl hu1 (je_ix rfl hu1 (je_fld 12 1 (je_var 0) rfl T.cl_Workspace T.na_Workspace_states rfl (lay_nd 12)) (je_neg je_int)) je_int))))
/-! ### Workspace_journal -/
theorem sc_Workspace_journal : FnScope ["self"] ["self"] (defScope s_Workspace_journal) := ⟨rfl, rfl, rfl, by decide +kernel, rfl, by decide +kernel, by decide +kernel⟩
theorem ok_Workspace_journal (T : Txt K mg a) : FnOk P w K mg base (L2.CX P w) 2 a.a_Workspace_journal a.d_Workspace_journal ["self"] (spF (G K a) 1 f_Workspace_journal) :=
  fn_ok [0] T.f_Workspace_journal.F sc_Workspace_journal (by decide) (fun _ _ => .inr (.inl rfl)) (fun cdv A outer s H E hr => by
    have hu : (A.deeper _).units + 64 < cLine := hr.units
    have hu1 := hu_of hr
    have hu5 := hu5_of hr
    exact (jss_one (js_ret (je_fld 12 2 (je_var 0) rfl T.cl_Workspace T.na_Workspace_commands rfl (lay_nd 12)))))
/-! ### Workspace_check_word -/
theorem sc_Workspace_check_word : FnScope ["self", "word"] ["self", "word"] (defScope s_Workspace_check_word) := ⟨rfl, rfl, rfl, by decide +kernel, rfl, by decide +kernel, by decide +kernel⟩
theorem ok_Workspace_check_word (T : Txt K mg a) : FnOk P w K mg base (L2.CX P w) 5 a.a_Workspace_check_word a.d_Workspace_check_word ["self", "word"] (spF (G K a) 2 f_Workspace_check_word) :=
  fn_ok [0] T.f_Workspace_check_word.F sc_Workspace_check_word (by decide) (fun _ _ => .inr (.inl rfl)) (fun cdv A outer s H E hr => by
    have hu : (A.deeper _).units + 64 < cLine := hr.units
    have hu1 := hu_of hr
    have hu5 := hu5_of hr
    exact (jss_one (js_if (jt_not (jt_val (je_call (ok_is_word T) (hr.mono (by decide)) T.g_is_word T.f_is_word.k T.f_is_word.b (takes_of rfl rfl rfl rfl) (jca_cons false (je_var 1) (jca_cons false (je_fld 12 0 (je_var 0) rfl T.cl_Workspace T.na_Workspace_rank rfl (lay_nd 12)) jca_nil))))) (jss_one (js_raise1 1 rfl T.e_BadValue.T T.e_BadValue.iC T.e_BadValue.tI (oki_BadValue T) (hr.mono (by decide)) T.i_BadValue.b (takes_of rfl rfl rfl rfl) T.e_BadValue.g (jf_cons (je_str [119, 111, 114, 100]) jf_nil) rfl)) jss_nil)))
/-! ### Workspace_broken -/
theorem sc_Workspace_broken : FnScope ["self", "word", "at", "bound"] ["self", "word"] (defScope s_Workspace_broken) := ⟨rfl, rfl, rfl, by decide +kernel, rfl, by decide +kernel, by decide +kernel⟩
theorem ok_Workspace_broken (T : Txt K mg a) : FnOk P w K mg base (L2.CX P w) 6 a.a_Workspace_broken a.d_Workspace_broken ["self", "word"] (spF (G K a) 2 f_Workspace_broken) :=
  fn_ok [0] T.f_Workspace_broken.F sc_Workspace_broken (by decide) (fun _ _ => .inr (.inl rfl)) (fun cdv A outer s H E hr => by
    have hu : (A.deeper _).units + 64 < cLine := hr.units
    have hu1 := hu_of hr
    have hu5 := hu5_of hr
    exact (jss_cons (js_expr (je_meth 12 (je_var 0) T.cl_Workspace T.me_Workspace_check_word (ok_Workspace_check_word T) (hr.mono (by decide)) T.f_Workspace_check_word.b (takes_of rfl rfl rfl rfl) (jca_cons false (je_var 1) jca_nil) (show ("check_word" : Str) ∉ lay 12 by decide +kernel)))
      (jss_one (js_ret (je_callTy call_tuple_of rd_tuple T.n_tuple (ja_cons (je_lc (own := [("at", 2), ("bound", 3)]) [2, 3] rfl sc_Workspace_broken.nd (ji_enumA rfl T.n_enumerate (je_meth0 12 (je_var 0) T.cl_Workspace T.me_Workspace_bounds (ok_Workspace_bounds T) (hr.mono (by decide)) T.f_Workspace_bounds.b (takes_of rfl rfl rfl rfl) (show ("bounds" : Str) ∉ lay 12 by decide +kernel))) (blk_of (by kernel_rfl)) (fun s_ H_ C_ cl_ fp_ => (jg_tup 2 rfl (jgs_cons (jg_name 2 sc_Workspace_broken.nd) (jgs_cons (jg_name 3 sc_Workspace_broken.nd) jgs_nil)))) (fun s_ H_ C_ cl_ fp_ => (jc_one (jt_not (jt_val (je_call (ok_returns_in T) (hr.mono (by decide)) T.g_returns_in T.f_returns_in.k T.f_returns_in.b takes0 (jca_cons false (je_var 3) (jca_cons false (je_var 1) jca_nil))))))) (fun s_ H_ C_ cl_ fp_ => (je_var 2))) ja_nil) (by decide +kernel))))))
/-! ### law -/
def q1_law : M Bool :=
  (notM (tsM (callM f__law_returns [(false, (opM gIx [(opM gIx [(ldM 4), (ret (.d (.int 1)))]), (ldM 10)])), (false, (ldM 9))])))
def b1_law : M Fl :=
  (seqM (asgM 7 (callM f__law_command [(true, (ldM 1)), (false, (ldM 2)), (false, (ldM 4))]))
  (seqM (asgM 8 (callM f__law_why_not [(false, (ldM 4)), (false, (ldM 7))]))
  (seqM (ifM (tsM (opM gEq [(ldM 8), (ret (.d (.str [])))])) (seqM (asgM 4 (callM f__law_behind [(false, (ldM 4)), (false, (ldM 7))]))
  (seqM (asgM 5 (opM gAdd [(ldM 5), (tupM [(ldM 7)])]))
  (asgM 8 (opM gLen [(ldM 5)])))) (asgM 8 (tupM [(ret (.d (.str [110, 111, 116]))), (ldM 8)])))
  (seqM (ifM (notM (tsM (callM (f__law_equal 6) [(false, (callM f__law_told [(true, (ldM 3)), (false, (ldM 7))])), (false, (ldM 8))]))) (retM (ret (.d (.bl false)))) (ret .nx))
  (seqM (ifM (notM (tsM (callM (f__law_equal 6) [(false, (lstM [(methM 12 f_Workspace_family (ldM 3) []), (methM 12 f_Workspace_bounds (ldM 3) []), (methM 12 f_Workspace_journal (ldM 3) [])])), (false, (lstM [(tupM [(ldM 2), (opM gIx [(ldM 4), (ret (.d (.int 0)))])]), (opM gIx [(ldM 4), (ret (.d (.int 1)))]), (ldM 5)]))]))) (retM (ret (.d (.bl false)))) (ret .nx))
  (seqM (asgM 9 (callM f__law_asked [(true, (ldM 1)), (false, (ldM 2)), (false, (opM gIx [(ldM 4), (ret (.d (.int 0)))]))]))
  (ifM (notM (tsM (callM (f__law_equal 6) [(false, (methM 12 f_Workspace_broken (ldM 3) [(false, (ldM 9))])), (false, (opM gTuple [(compM [10] (itR1 (opM gLen [(opM gIx [(ldM 4), (ret (.d (.int 1)))])])) (stD 10) q1_law (ldM 10))]))]))) (retM (ret (.d (.bl false)))) (ret .nx))))))))
def e1_law : M R :=
  (opM gEq [(methM 12 f_Workspace_broken (ldM 3) [(false, (ldM 9))]), (tupM [])])
def m_law : M Fl :=
  (seqM (asgM 1 (callM f__law_stream [(false, (ldM 0))]))
  (seqM (asgM 2 (opM gAdd [(ret (.d (.int 1))), (callM f__law_next [(true, (ldM 1)), (false, (ret (.d (.int 3))))])]))
  (seqM (asgM 3 (makeM 12 f_Workspace_init [(ldM 2)]))
  (seqM (asgM 4 (tupM [(tupM []), (tupM [])]))
  (seqM (asgM 5 (tupM []))
  (seqM (bnd (itR1 (callM f__law_next [(true, (ldM 1)), (false, (ret (.d (.int 13))))])) (forM (stD 6) b1_law))
  (retM (opM gAll [(compM [9] (itV (opM gIx [(ldM 4), (ret (.d (.int 0)))])) (stD 9) (ret true) e1_law)]))))))))
def f_law : Fn := bodyF 11 [] m_law
theorem sc_law : FnScope ["_law_script", "_law_stream_here", "_law_rank", "_law_space", "_law_state", "_law_journal", "_law_turn", "_law_command_here", "_law_due", "_law_word_here", "_law_at"] ["_law_script"] (defScope s_law) := ⟨rfl, rfl, rfl, by decide +kernel, rfl, by decide +kernel, by decide +kernel⟩
theorem ok_law (T : Txt K mg a) : FnOk P w K mg base (L2.CX P w) 10 a.a_law a.d_law ["_law_script"] (spF (G K a) 1 f_law) :=
  fn_ok [] T.f_law.F sc_law (by decide) (fun _ _ => .inr (.inl rfl)) (fun cdv A outer s H E hr => by
    have hu : (A.deeper _).units + 64 < cLine := hr.units
    have hu1 := hu_of hr
    have hu5 := hu5_of hr
    exact (jss_cons (js_asg 1 sc_law.nd (je_call (ok__law_stream T) (hr.mono (by decide)) T.g__law_stream T.f__law_stream.k T.f__law_stream.b (takes_of rfl rfl rfl rfl) (jca_cons false (je_var 0) jca_nil)))
      (jss_cons (js_asg 2 sc_law.nd (je_bin op_addA rd_add je_int (je_call (ok__law_next T) (hr.mono (by decide)) T.g__law_next T.f__law_next.k T.f__law_next.b (takes_of rfl rfl rfl rfl) (jca_cons true (je_var 1) (jca_cons false je_int jca_nil)))))
      (jss_cons (js_asg 3 sc_law.nd (je_make 12 T.mk_Workspace (ok_Workspace_init T) (hr.mono (by decide)) T.gl_Workspace T.f_Workspace_init.b (takes_of rfl rfl rfl rfl) (jf_cons (je_var 2) jf_nil)))
      (jss_cons (js_asg 4 sc_law.nd (je_tup (jf_cons (je_tup jf_nil) (jf_cons (je_tup jf_nil) jf_nil))))
      (jss_cons (js_asg 5 sc_law.nd (je_tup jf_nil))
      (jss_cons (js_for (passes_of rfl) rfl (ji_range1 T.n_range (ja_cons (je_call (ok__law_next T) (hr.mono (by decide)) T.g__law_next T.f__law_next.k T.f__law_next.b (takes_of rfl rfl rfl rfl) (jca_cons true (je_var 1) (jca_cons false je_int jca_nil))) ja_nil)) (jg_name 6 sc_law.nd) (jss_cons (js_asg 7 sc_law.nd (je_call (ok__law_command T) (hr.mono (by decide)) T.g__law_command T.f__law_command.k T.f__law_command.b (takes_of rfl rfl rfl rfl) (jca_cons true (je_var 1) (jca_cons false (je_var 2) (jca_cons false (je_var 4) jca_nil)))))
      (jss_cons (js_asg 8 sc_law.nd (je_call (ok__law_why_not T) (hr.mono (by decide)) T.g__law_why_not T.f__law_why_not.k T.f__law_why_not.b (takes_of rfl rfl rfl rfl) (jca_cons false (je_var 4) (jca_cons false (je_var 7) jca_nil))))
      (jss_cons (js_if (jt_cmp (op_eqA hu) rd_eq (je_var 8) (je_str [])) (jss_cons (js_asg 4 sc_law.nd (je_call (ok__law_behind T) (hr.mono (by decide)) T.g__law_behind T.f__law_behind.k T.f__law_behind.b (takes_of rfl rfl rfl rfl) (jca_cons false (je_var 4) (jca_cons false (je_var 7) jca_nil))))
      (jss_cons (js_asg 5 sc_law.nd (je_bin op_addA rd_add (je_var 5) (je_tup (jf_cons (je_var 7) jf_nil))))
      (jss_one (js_asg 8 sc_law.nd (je_callB call_lenA rd_len T.n_len (ja_cons (je_var 5) ja_nil) (by decide +kernel)))))) (jss_one (js_asg 8 sc_law.nd (je_tup (jf_cons (je_str [110, 111, 116]) (jf_cons (je_var 8) jf_nil))))))
      (jss_cons (js_if (jt_not (jt_val (je_call (ok__law_equal T 6) (hr.mono (by decide)) T.g__law_equal T.f__law_equal.k T.f__law_equal.b (takes_of rfl rfl rfl rfl) (jca_cons false (je_call (ok__law_told T) (hr.mono (by decide)) T.g__law_told T.f__law_told.k T.f__law_told.b (takes_of rfl rfl rfl rfl) (jca_cons true (je_var 3) (jca_cons false (je_var 7) jca_nil))) (jca_cons false (je_var 8) jca_nil))))) (jss_one (js_ret je_bl)) jss_nil)
      (jss_cons (js_if (jt_not (jt_val (je_call (ok__law_equal T 6) (hr.mono (by decide)) T.g__law_equal T.f__law_equal.k T.f__law_equal.b (takes_of rfl rfl rfl rfl) (jca_cons false (je_lst (jf_cons (je_meth0 12 (je_var 3) T.cl_Workspace T.me_Workspace_family (ok_Workspace_family T) (hr.mono (by decide)) T.f_Workspace_family.b (takes_of rfl rfl rfl rfl) (show ("family" : Str) ∉ lay 12 by decide +kernel)) (jf_cons (je_meth0 12 (je_var 3) T.cl_Workspace T.me_Workspace_bounds (ok_Workspace_bounds T) (hr.mono (by decide)) T.f_Workspace_bounds.b (takes_of rfl rfl rfl rfl) (show ("bounds" : Str) ∉ lay 12 by decide +kernel)) (jf_cons (je_meth0 12 (je_var 3) T.cl_Workspace T.me_Workspace_journal (ok_Workspace_journal T) (hr.mono (by decide)) T.f_Workspace_journal.b (takes_of rfl rfl rfl rfl) (show ("journal" : Str) ∉ lay 12 by decide +kernel)) jf_nil)))) (jca_cons false (je_lst (jf_cons (je_tup (jf_cons (je_var 2) (jf_cons (je_ix rfl hu1 (je_var 4) je_int) jf_nil))) (jf_cons (je_ix rfl hu1 (je_var 4) je_int) (jf_cons (je_var 5) jf_nil)))) jca_nil))))) (jss_one (js_ret je_bl)) jss_nil)
      (jss_cons (js_asg 9 sc_law.nd (je_call (ok__law_asked T) (hr.mono (by decide)) T.g__law_asked T.f__law_asked.k T.f__law_asked.b (takes_of rfl rfl rfl rfl) (jca_cons true (je_var 1) (jca_cons false (je_var 2) (jca_cons false (je_ix rfl hu1 (je_var 4) je_int) jca_nil)))))
      (jss_one (js_if (jt_not (jt_val (je_call (ok__law_equal T 6) (hr.mono (by decide)) T.g__law_equal T.f__law_equal.k T.f__law_equal.b (takes_of rfl rfl rfl rfl) (jca_cons false (je_meth 12 (je_var 3) T.cl_Workspace T.me_Workspace_broken (ok_Workspace_broken T) (hr.mono (by decide)) T.f_Workspace_broken.b (takes_of rfl rfl rfl rfl) (jca_cons false (je_var 9) jca_nil) (show ("broken" : Str) ∉ lay 12 by decide +kernel)) (jca_cons false (je_callTy call_tuple_of rd_tuple T.n_tuple (ja_cons (je_lc (own := [("_law_at", 10)]) [10] rfl sc_law.nd (ji_range1 T.n_range (ja_cons (je_callB call_lenA rd_len T.n_len (ja_cons (je_ix rfl hu1 (je_var 4) je_int) ja_nil) (by decide +kernel)) ja_nil)) (blk_of (by kernel_rfl)) (fun s_ H_ C_ cl_ fp_ => (jg_name 10 sc_law.nd)) (fun s_ H_ C_ cl_ fp_ => (jc_one (jt_not (jt_val (je_call (ok__law_returns T) (hr.mono (by decide)) T.g__law_returns T.f__law_returns.k T.f__law_returns.b takes0 (jca_cons false (je_ix rfl hu1 (je_ix rfl hu1 (je_var 4) je_int) (je_var 10)) (jca_cons false (je_var 9) jca_nil))))))) (fun s_ H_ C_ cl_ fp_ => (je_var 10))) ja_nil) (by decide +kernel)) jca_nil))))) (jss_one (js_ret je_bl)) jss_nil)))))))))
      (jss_one (js_ret (je_callB (cr_all rfl) rd_all T.n_all (ja_cons (je_lc (own := [("_law_word_here", 9)]) [9] rfl sc_law.nd (ji_val rfl (je_ix rfl hu1 (je_var 4) je_int)) (blk_of (by kernel_rfl)) (fun s_ H_ C_ cl_ fp_ => (jg_name 9 sc_law.nd)) (fun s_ H_ C_ cl_ fp_ => jc_nil) (fun s_ H_ C_ cl_ fp_ => (je_cmp (op_eqA hu) rd_eq (je_meth 12 (je_var 3) T.cl_Workspace T.me_Workspace_broken (ok_Workspace_broken T) (hr.mono (by decide)) T.f_Workspace_broken.b takes0 (jca_cons false (je_var 9) jca_nil) (show ("broken" : Str) ∉ lay 12 by decide +kernel)) (je_tup jf_nil)))) ja_nil) (by decide +kernel)))))))))))
end
end K88

set_option Elab.async false
set_option linter.all false
set_option maxRecDepth 100000
set_option maxHeartbeats 4000000
/-! What the laws' own small functions give. -/
namespace Lib
open L2 DV
/-- a stream's state -/
structure S3 where
  ns : List Int
  c : Int
  k : Int
def strl (s : S3) : List D := [.lst (s.ns.map .int), .int s.c, .int s.k]
theorem stream_of (ns : List Int) : f__law_stream [.f (.fz (.scr ns))] = .ret (.f (.lst (strl ⟨ns, 0, 0⟩))) [.f (.fz (.scr ns))] := by
  unfold f__law_stream
  rw [bodyF_app]
  unfold m__law_stream
  simp [entry, ldM]
  rfl
theorem next_ok (s : S3) (m : Int) (hk : 0 ≤ s.k) (hm : 0 < m) (hm2 : m < 1073741824) :
    ∃ d s', f__law_next [.f (.lst (strl s)), .f (.fz (.int m))] = .ret (.f (.fz (.int d))) [.f (.lst (strl s')), .f (.fz (.int m))] ∧ 0 ≤ s'.k ∧ 0 ≤ d ∧ d < m := by
  obtain ⟨ns, c, k⟩ := s
  unfold f__law_next
  rw [bodyF_app]
  unfold m__law_next
  by_cases hc : c = 0
  · subst hc
    obtain ⟨k, rfl⟩ := Int.eq_ofNat_of_zero_le hk
    have nn : ∀ x : Int, ∃ d : Int, ∃ s' : S3, x % m = d ∧ ns = s'.ns ∧ x / m = s'.c ∧ (k : Int) + 1 = s'.k ∧ 0 ≤ s'.k ∧ 0 ≤ d ∧ d < m := fun x =>
      ⟨_, ⟨ns, _, _⟩, rfl, rfl, rfl, rfl, (by show (0 : Int) ≤ k + 1; omega), Int.emod_nonneg _ (by omega), Int.emod_lt_of_pos _ hm⟩
    by_cases h1 : k < ns.length
    · have h3 : (k : Int) < (ns.length : Int) := by omega
      by_cases h2 : (if ns[k] < 0 then -ns[k] else ns[k]) < 1000000000000000000
      · simp [entry, ldM, strl, vws_at, vw, asgK_at, asgK_fld, getC, putC, gPut, toOp, hm, hm2, h1, h3, h2, ixN]
        obtain ⟨d, s', e1, e2, e3, e4, e5⟩ := nn _
        exact ⟨d, s', ⟨e1, by rw [e2], e3, e4⟩, e5⟩
      · simp [entry, ldM, strl, vws_at, vw, asgK_at, asgK_fld, getC, putC, gPut, toOp, hm, hm2, h1, h3, h2, ixN]
        obtain ⟨d, s', e1, e2, e3, e4, e5⟩ := nn _
        exact ⟨d, s', ⟨e1, by rw [e2], e3, e4⟩, e5⟩
    · have h3 : ¬ (k : Int) < (ns.length : Int) := by omega
      by_cases h2 : (7 + (k : Int)) < 1000000000000000000
      · simp [entry, ldM, strl, vws_at, vw, asgK_at, asgK_fld, getC, putC, gPut, toOp, hm, hm2, h1, h3, h2, ixN]
        obtain ⟨d, s', e1, e2, e3, e4, e5⟩ := nn _
        exact ⟨d, s', ⟨e1, by rw [e2], e3, e4⟩, e5⟩
      · simp [entry, ldM, strl, vws_at, vw, asgK_at, asgK_fld, getC, putC, gPut, toOp, hm, hm2, h1, h3, h2, ixN]
        obtain ⟨d, s', e1, e2, e3, e4, e5⟩ := nn _
        exact ⟨d, s', ⟨e1, by rw [e2], e3, e4⟩, e5⟩
  · simp [entry, ldM, strl, vws_at, vw, asgK_at, asgK_fld, getC, putC, gPut, hc, toOp, hm, hm2, ixN]
    exact ⟨_, ⟨ns, _, k⟩, ⟨rfl, rfl, rfl, rfl⟩, hk, Int.emod_nonneg _ (by omega), Int.emod_lt_of_pos _ hm⟩
/-- with a natural number -/
theorem next_nat (s : S3) (m : Nat) (hk : 0 ≤ s.k) (hm : 0 < m) (hm2 : m < 1073741824) :
    ∃ (d : Nat) (s' : S3), f__law_next [.f (.lst (strl s)), .f (.fz (.int (m : Int)))] = .ret (.f (.fz (.int (d : Int)))) [.f (.lst (strl s')), .f (.fz (.int (m : Int)))] ∧ 0 ≤ s'.k ∧ d < m := by
  obtain ⟨d, s', h, h1, h2, h3⟩ := next_ok s m hk (by omega) (by omega)
  obtain ⟨d, rfl⟩ := Int.eq_ofNat_of_zero_le h2
  exact ⟨d, s', h, h1, by omega⟩
theorem pick_ok (s : S3) (xs : List D) (hk : 0 ≤ s.k) (hm : xs ≠ []) (hm2 : xs.length < 1073741824) :
    ∃ (d : D) (s' : S3), f__law_pick [.f (.lst (strl s)), .f (.fz (.lst xs))] = .ret (.f (.fz d)) [.f (.lst (strl s')), .f (.fz (.lst xs))] ∧ 0 ≤ s'.k ∧ d ∈ xs := by
  have hl : 0 < xs.length := List.length_pos_iff.mpr hm
  obtain ⟨d, s', h, h1, h2⟩ := next_nat s xs.length hk hl hm2
  refine ⟨xs[d], s', ?_, h1, List.getElem_mem h2⟩
  unfold f__law_pick
  rw [bodyF_app]
  unfold m__law_pick
  simp [entry, ldM, vws_at, vw, osOf_at, h, h2]
theorem is_integer_i (i : Int) : f__law_is_integer [.f (.fz (.int i))] = .ret (.f (.fz (.bl true))) [.f (.fz (.int i))] := by
  unfold f__law_is_integer
  rw [bodyF_app]
  unfold m__law_is_integer
  simp [entry, ldM]
/-- data that _law_equal goes through: depth -/
def pl : Nat → D → Bool
  | _, .non => true
  | _, .bl _ => true
  | _, .int _ => true
  | _, .str _ => true
  | n + 1, .lst xs => decide (xs.length < 100000) && xs.all (pl n)
  | n + 1, .tup xs => decide (xs.length < 100000) && xs.all (pl n)
  | _, _ => false
theorem all_bl (n : Nat) : gAll [.lst (List.replicate n (.bl true))] = some (.d (.bl true)) := by
  have : ∀ n, blsOf (List.replicate n (.bl true)) = some (List.replicate n true) := fun n => by
    induction n with
    | zero => rfl
    | succ n ih => rw [List.replicate_succ, List.replicate_succ]; show (blsOf _).map _ = _; rw [ih]; rfl
  show (blsOf _).map _ = _
  rw [this]
  simp
theorem equal_go {xs : List D} {n : Nat} {d : D} (hd : d = .lst xs ∨ d = .tup xs) (hl : xs.length < 100000) (ih : ∀ x ∈ xs, f__law_equal n [.f (.fz x), .f (.fz x)] = .ret (.f (.fz (.bl true))) [.f (.fz x), .f (.fz x)]) :
    compM [2] (itR1 (opM gLen [(ldM 1)])) (stD 2) (ret true) (callM (f__law_equal n) [(false, (opM gIx [(ldM 0), (ldM 2)])), (false, (opM gIx [(ldM 1), (ldM 2)]))]) [some (.f (.fz d)), some (.f (.fz d)), none] = .ok (.lst (List.replicate xs.length (.bl true))) [some (.f (.fz d)), some (.f (.fz d)), none] := by
  have e : (DV.rgV 0 xs.length).map (fun _ => D.bl true) = List.replicate xs.length (.bl true) := by
    unfold DV.rgV
    rw [List.map_map]
    apply List.ext_getElem <;> simp
  rw [← e]
  refine comp_pure ?_ rfl (by simp [DV.rgV]; omega) fun y hy => ?_
  · rcases hd with rfl | rfl <;> simp [ldM, small_nat hl]
  · unfold DV.rgV at hy
    rw [List.mem_map] at hy
    obtain ⟨j, hj, rfl⟩ := hy
    have hj : j < xs.length := List.mem_range.mp hj
    have := ih xs[j] (List.getElem_mem hj)
    rcases hd with rfl | rfl <;> simp [ldM, hj, this]
theorem equal_refl : ∀ (n : Nat) (d : D), pl n d = true → f__law_equal (n + 1) [.f (.fz d), .f (.fz d)] = .ret (.f (.fz (.bl true))) [.f (.fz d), .f (.fz d)] := by
  intro n d h
  show bodyF 3 [] (m__law_equal (f__law_equal n)) _ = _
  rw [bodyF_app]
  unfold m__law_equal
  cases d with
  | non => simp [entry, ldM]
  | bl b => simp [entry, ldM]
  | int i => simp [entry, ldM, is_integer_i]
  | str s => simp [entry, ldM]
  | lst xs =>
    cases n with
    | zero => simp [pl] at h
    | succ n =>
      simp only [pl, Bool.and_eq_true, decide_eq_true_eq, List.all_eq_true] at h
      have := equal_go (n := n + 1) (.inl rfl) h.1 fun x hx => equal_refl n x (h.2 x hx)
      simp [entry, ldM, this, all_bl]
  | tup xs =>
    cases n with
    | zero => simp [pl] at h
    | succ n =>
      simp only [pl, Bool.and_eq_true, decide_eq_true_eq, List.all_eq_true] at h
      have := equal_go (n := n + 1) (.inr rfl) h.1 fun x hx => equal_refl n x (h.2 x hx)
      simp [entry, ldM, this, all_bl]
  | dic kv => cases n <;> simp [pl] at h
  | wtup xs => cases n <;> simp [pl] at h
  | scr ns => cases n <;> simp [pl] at h
end Lib

set_option Elab.async false
set_option linter.all false
set_option maxRecDepth 100000
set_option maxHeartbeats 1000000
/-! DV34: the further mirrors are run by simp. -/
namespace DV
open PySem L2
/-! ### methods of texts, tuples -/
def rmK (T : String) (g : List D → Option R) (ms : List (M R)) (o : Op) : M R := fun e => if isTy T o e = true then Res.bind (args ms e) fun os => opK g (o :: os) else .fail
@[simp] theorem rmM_app {T : String} {g : List D → Option R} {mo : M R} {ms : List (M R)} {e : Env} : rmM T g mo ms e = Res.bind (opd mo e) (rmK T g ms) := by
  unfold rmM
  rw [bnd_app]
  cases opd mo e with
  | ok o e1 =>
    simp only [rb_ok, bnd_app, chk, rmK]
    by_cases h : isTy T o e1 = true
    · simp only [h, if_true, rb_ok, bnd_app]
      cases args ms e1 with
      | ok os e2 =>
        simp only [rb_ok, bnd_app, seen, opK]
        cases vws e2 (o :: os) with
        | none => rfl
        | some ds => simp only [rb_ok]; cases g ds <;> rfl
      | _ => rfl
    · simp only [h]; rfl
  | _ => rfl
@[simp] theorem rmK_str {T : String} {g : List D → Option R} {ms : List (M R)} {s : List Nat} {e : Env} : rmK T g ms (.d (.str s)) e = if T = "str" then Res.bind (args ms e) fun os => opK g (.d (.str s) :: os) else .fail := by
  show (if decide (T = "str") = true then _ else _) = _
  by_cases h : T = "str" <;> simp [h]
theorem rmK_at {T : String} {g : List D → Option R} {ms : List (M R)} {i : Nat} {e : Env} : rmK T g ms (.at i) e = if isTy T (.at i) e = true then Res.bind (args ms e) fun os => opK g (.at i :: os) else .fail := rfl
def tixK (m : M R) (o : Op) : M R := fun e => if isW o e = true then Res.bind (args [m] e) fun os => opK gTIx (o :: os) else .fail
@[simp] theorem tixM_app {mo m : M R} {e : Env} : tixM mo m e = Res.bind (opd mo e) (tixK m) := by
  unfold tixM
  rw [bnd_app]
  cases opd mo e with
  | ok o e1 =>
    simp only [rb_ok, bnd_app, chk, tixK]
    by_cases h : isW o e1 = true
    · simp only [h, if_true, rb_ok, bnd_app]
      cases args [m] e1 with
      | ok os e2 =>
        simp only [rb_ok, bnd_app, seen, opK]
        cases vws e2 (o :: os) with
        | none => rfl
        | some ds => simp only [rb_ok]; cases gTIx ds <;> rfl
      | _ => rfl
    · simp only [h]; rfl
  | _ => rfl
@[simp] theorem tixK_w {m : M R} {xs : List D} {e : Env} : tixK m (.d (.wtup xs)) e = Res.bind (args [m] e) fun os => opK gTIx (.d (.wtup xs) :: os) := by
  unfold tixK
  exact if_pos rfl
def trK (o : Op) : M Bool := fun e => match (vw e o).bind truD with
  | some b => .ok b e
  | none => .fail
@[simp] theorem trM_app {m : M R} {e : Env} : trM m e = Res.bind (opd m e) trK := by
  unfold trM
  rw [bnd_app]
  cases opd m e with
  | ok o e1 => simp only [rb_ok]; rfl
  | _ => rfl
@[simp] theorem trK_d {x : D} {e : Env} : trK (.d x) e = match truD x with
  | some b => .ok b e
  | none => .fail := nr rfl
theorem trK_at {i : Nat} {e : Env} : trK (.at i) e = match (vw e (.at i)).bind truD with
  | some b => .ok b e
  | none => .fail := rfl
theorem trK_fld {i j : Nat} {e : Env} : trK (.fld i j) e = match (vw e (.fld i j)).bind truD with
  | some b => .ok b e
  | none => .fail := rfl
@[simp] theorem truD_tup {xs : List D} : truD (.tup xs) = some (!xs.isEmpty) := nr rfl
@[simp] theorem truD_wtup {xs : List D} : truD (.wtup xs) = some (!xs.isEmpty) := nr rfl
@[simp] theorem truD_lst {xs : List D} : truD (.lst xs) = some (!xs.isEmpty) := nr rfl
@[simp] theorem truD_bl {b : Bool} : truD (.bl b) = some b := nr rfl
@[simp] theorem truD_non : truD .non = some false := nr rfl
/-! ### things of ours -/
def methK (c : Nat) (f : Fn) (ms : List (Bool × M R)) (r : R) : M R := match r with
  | .at i => fun e => if isI c e (.at i) = true then Res.bind (cargs ms e) fun as => runF f (.at i :: as) else .fail
  | _ => failM
@[simp] theorem methM_app {c : Nat} {f : Fn} {m : M R} {ms : List (Bool × M R)} {e : Env} : methM c f m ms e = Res.bind (m e) (methK c f ms) := by
  unfold methM ca1
  rw [if_pos rfl, bnd_app, bnd_app]
  cases m e with
  | ok r e1 =>
    simp only [rb_ok]
    cases r with
    | «at» i => simp only [ret_app, rb_ok, methK, bnd_app]
    | _ => rfl
  | _ => rfl
@[simp] theorem methK_at {c : Nat} {f : Fn} {ms : List (Bool × M R)} {i : Nat} {e : Env} : methK c f ms (.at i) e = if isI c e (.at i) = true then Res.bind (cargs ms e) fun as => runF f (.at i :: as) else .fail := nr rfl
theorem isI_at {c i : Nat} {e : Env} : isI c e (.at i) = match e[i]? with
    | some (some (.ins c' _)) => c' == c
    | _ => false := rfl
def makeK (c : Nat) (f : Fn) (ds : List D) : M R := fun env => match f (.ins c [] :: fzs ds) with
  | .ret (.f (.fz .non)) (.ins c' fs :: _) => if c' = c then .ok (.ins c fs) env else .fail
  | .exc x _ => .exc x env
  | _ => .fail
@[simp] theorem makeM_app {c : Nat} {f : Fn} {ms : List (M R)} {e : Env} : makeM c f ms e = Res.bind (fargs ms e) (makeK c f) := by
  unfold makeM
  rw [bnd_app]
  cases fargs ms e <;> rfl
theorem makeK_app {c : Nat} {f : Fn} {ds : List D} {e : Env} : makeK c f ds e = match f (.ins c [] :: fzs ds) with
  | .ret (.f (.fz .non)) (.ins c' fs :: _) => if c' = c then .ok (.ins c fs) e else .fail
  | .exc x _ => .exc x e
  | _ => .fail := rfl
@[simp] theorem fzs_nil : fzs [] = [] := nr rfl
@[simp] theorem fzs_cons {d : D} {ds : List D} : fzs (d :: ds) = .f (.fz d) :: fzs ds := nr rfl
def fldK (c j : Nat) (r : R) : M R := fun env => match r with
  | .at i => match env[i]? with
    | some (some (.ins c' fs)) => if c' = c then match fs[j]? with
        | some (.fz d) => .ok (.d d) env
        | some _ => .ok (.fld i j) env
        | none => .fail
      else .fail
    | _ => .fail
  | _ => .fail
@[simp] theorem fldM_app {c j : Nat} {m : M R} {e : Env} : fldM c j m e = Res.bind (m e) (fldK c j) := by
  unfold fldM
  rw [bnd_app]
  rfl
theorem fldK_at {c j i : Nat} {e : Env} : fldK c j (.at i) e = match e[i]? with
    | some (some (.ins c' fs)) => if c' = c then match fs[j]? with
        | some (.fz d) => .ok (.d d) e
        | some _ => .ok (.fld i j) e
        | none => .fail
      else .fail
    | _ => .fail := rfl
/-- a store into a field: what comes of the value -/
def stK (c j : Nat) (mo : M R) (r : R) : M Fl := match r with
  | .fld _ _ => failM
  | r => fun e => Res.bind (mo e) fun ro => match ro with
    | .at i => fun e => Res.bind (setF c j i r e) fun _ => ret .nx
    | _ => failM
@[simp] theorem stFS_app {c j : Nat} {mo mv : M R} {e : Env} : stFS c j mo mv e = Res.bind (mv e) (stK c j mo) := by
  unfold stFS stFM noFld
  rw [bnd_app, bnd_app]
  cases mv e with
  | ok r e1 =>
    simp only [rb_ok]
    cases r <;> first
      | rfl
      | (simp only [ret_app, rb_ok, stK, bnd_app]
         cases mo e1 with
         | ok ro e2 =>
           simp only [rb_ok]
           cases ro <;> first | rfl | (simp only [bnd_app])
         | _ => rfl)
  | _ => rfl
@[simp] theorem stK_d {c j : Nat} {mo : M R} {x : D} {e : Env} : stK c j mo (.d x) e = Res.bind (mo e) fun ro => match ro with
    | .at i => fun e => Res.bind (setFz c j i x e) fun _ => ret .nx
    | _ => failM := by
  unfold stK setF
  simp only
  congr 1
@[simp] theorem stK_lst {c j : Nat} {mo : M R} {x : List D} {e : Env} : stK c j mo (.lst x) e = Res.bind (mo e) fun ro => match ro with
    | .at i => fun e => Res.bind (appF c j i (.lst x) e) fun _ => ret .nx
    | _ => failM := nr rfl
@[simp] theorem stK_dic {c j : Nat} {mo : M R} {x} {e : Env} : stK c j mo (.dic x) e = Res.bind (mo e) fun ro => match ro with
    | .at i => fun e => Res.bind (appF c j i (.dic x) e) fun _ => ret .nx
    | _ => failM := nr rfl
theorem setFz_app {c j i : Nat} {d : D} {e : Env} : setFz c j i d e = match e[i]? with
  | some (some (.ins c' fs)) => if c' = c then (if j = fs.length then .ok () (e.set i (some (.ins c (fs ++ [.fz d])))) else if j < fs.length then .ok () (e.set i (some (.ins c (fs.set j (.fz d))))) else .fail) else .fail
  | _ => .fail := rfl
theorem appF_app {c j i : Nat} {x : Fd} {e : Env} : appF c j i x e = match e[i]? with
  | some (some (.ins c' fs)) => if c' = c ∧ j = fs.length then .ok () (e.set i (some (.ins c (fs ++ [x])))) else .fail
  | _ => .fail := rfl
/-! ### either of two -/
def Res.alt {α : Type} (r r' : Res α) : Res α := match r with
  | .fail => r'
  | r => r
@[simp] theorem alt_ok {α : Type} {a : α} {e : Env} {r : Res α} : Res.alt (.ok a e) r = .ok a e := nr rfl
@[simp] theorem alt_fail {α : Type} {r : Res α} : Res.alt .fail r = r := nr rfl
@[simp] theorem alt_exc {α : Type} {x : Exn} {e : Env} {r : Res α} : Res.alt (.exc x e) r = .exc x e := nr rfl
@[simp] theorem altM_app {α : Type} {m m' : M α} {e : Env} : altM m m' e = Res.alt (m e) (m' e) := nr rfl
/-! ### what the operations give -/
section
variable {i j : Int} {s t : List Nat} {xs ys : List D}
@[simp] theorem gLen_w : gLen [.wtup xs] = some (.d (.int xs.length)) := nr rfl
@[simp] theorem gIx_w : gIx [.wtup xs, .int i] = (atI xs i).map (fun d => .d d) := nr rfl
@[simp] theorem gIsN_w : gIsN [.wtup xs, .non] = some (.d (.bl false)) := nr rfl
@[simp] theorem gNotN_w : gNotN [.wtup xs, .non] = some (.d (.bl true)) := nr rfl
@[simp] theorem gIsN_dic {kv} : gIsN [.dic kv, .non] = some (.d (.bl false)) := nr rfl
@[simp] theorem gNotN_dic {kv} : gNotN [.dic kv, .non] = some (.d (.bl true)) := nr rfl
@[simp] theorem gRev_s : gRev [.str s] = if s.length < 100000 then some (.d (.str s.reverse)) else none := nr rfl
@[simp] theorem gRev_l : gRev [.lst xs] = some (.lst xs.reverse) := nr rfl
@[simp] theorem gTuple_l : gTuple [.lst xs] = some (.d (.tup xs)) := nr rfl
@[simp] theorem gTupleW_l : gTupleW [.lst xs] = some (.d (.wtup xs)) := nr rfl
@[simp] theorem enD_l : enD (.lst xs) = some xs := nr rfl
@[simp] theorem enD_t : enD (.tup xs) = some xs := nr rfl
@[simp] theorem enD_w : enD (.wtup xs) = some xs := nr rfl
@[simp] theorem enD_s : enD (.str s) = some (s.map fun c => .str [c]) := nr rfl
@[simp] theorem gAdd_tt : gAdd [.tup xs, .tup ys] = if xs.length + ys.length < 100000 then some (.d (.tup (xs ++ ys))) else none := by
  show catT _ _ _ _ = _
  unfold catT
  split
  · by_cases h : xs = []
    · subst h; simp
    · rw [if_neg h]
      by_cases h2 : ys = []
      · subst h2; simp
      · rw [if_neg h2]
  · rfl
@[simp] theorem gLRg1_i {n : Nat} (h : n < 100000) : gLRg1 [.int (n : Int)] = some (.lst (rgV 0 n)) := by
  have h2 : -100000 < (n : Int) ∧ (n : Int) < 100000 := by omega
  simp [gLRg1, h2]
theorem atI_neg {α : Type} {l : List α} (h : l ≠ []) : atI l (-1) = l.getLast? := by
  have hl : 0 < l.length := List.length_pos_iff.mpr h
  unfold atI ixN
  rw [List.getLast?_eq_getElem?]
  have e1 : ¬ (0 : Int) ≤ -1 := by decide
  simp
  split
  · rename_i h1
    have : ((-1 + (l.length : Int)).toNat) = l.length - 1 := by omega
    rw [this]; rfl
  · omega
end
/-- texts written together -/
theorem joinT_eq (a : List Nat) (ws : List (List Nat)) : joinT a ws = TL.joinL a ws := by
  unfold joinT
  rw [TL.join_eq]
  have := TL.tl_join ⟨a.toArray⟩ (ws.map fun w => (⟨w.toArray⟩ : Str))
  have e : (ws.map fun w => (⟨w.toArray⟩ : Str)).map TL.tl = ws := by
    rw [List.map_map]
    exact (List.map_congr_left fun w _ => rfl).trans (List.map_id' ws)
  rw [e] at this
  exact this
theorem joinL_nil : ∀ ws : List (List Nat), TL.joinL [] ws = ws.flatten
  | [] => rfl
  | [p] => by simp [TL.joinL]
  | p :: q :: r => by simp [TL.joinL, joinL_nil (q :: r)]
theorem strsOf_map (ws : List (List Nat)) : strsOf (ws.map .str) = some ws := by
  induction ws with
  | nil => rfl
  | cons w ws ih => rw [List.map_cons, strsOf, ih]; rfl
theorem gJoin_nil (ws : List (List Nat)) (h : (ws.map List.length).sum < 100000) : gJoin [.str [], .lst (ws.map .str)] = some (.d (.str ws.flatten)) := by
  show gJoinW _ _ = _
  unfold gJoinW
  rw [strsOf_map, Option.bind_some, if_pos (by simpa using h), joinT_eq, joinL_nil]
theorem gJoin_letters (w : List Nat) (h : w.length < 100000) : gJoin [.str [], .lst (w.map fun c => .str [c])] = some (.d (.str w)) := by
  have e : (w.map fun c => D.str [c]) = (w.map fun c => [c]).map .str := by rw [List.map_map]; rfl
  rw [e, gJoin_nil]
  · have : (w.map fun c => [c]).flatten = w := by
      clear h e
      induction w with
      | nil => rfl
      | cons c w ih => simp [ih]
    rw [this]
  · rw [List.map_map]
    have : (w.map (List.length ∘ fun c => [c])).sum = w.length := by
      clear h e
      induction w with
      | nil => rfl
      | cons c w ih => simp; omega
    omega
/-! ### chains -/
def chainK2 (g' : List D → Option R) (o2 : Op) (mc : M R) (r : R) : M R := match r with
  | .d (.bl true) => fun e => Res.bind (opd mc e) fun o3 => opK g' [o2, o3]
  | .d (.bl false) => ret (.d (.bl false))
  | _ => failM
@[simp] theorem chainM_app {g g' : List D → Option R} {ma mb mc : M R} {e : Env} : chainM g g' ma mb mc e = Res.bind (opd ma e) fun o1 e => Res.bind (opd mb e) fun o2 e => Res.bind (opK g [o1, o2] e) (chainK2 g' o2 mc) := by
  unfold chainM
  rw [bnd_app]
  cases opd ma e with
  | ok o1 e1 =>
    simp only [rb_ok, bnd_app]
    cases opd mb e1 with
    | ok o2 e2 =>
      simp only [rb_ok, bnd_app, seen, opK]
      cases vws e2 [o1, o2] with
      | none => rfl
      | some ds =>
        simp only [rb_ok]
        cases g ds with
        | none => rfl
        | some r =>
          simp only [lift_some, ret_app, rb_ok]
          cases r with
          | d x =>
            cases x with
            | bl b =>
              cases b with
              | true =>
                simp only [chainK2, bnd_app]
                cases opd mc e2 with
                | ok o3 e3 =>
                  simp only [rb_ok, bnd_app, opK, seen]
                  cases vws e3 [o2, o3] with
                  | none => rfl
                  | some ds2 => simp only [rb_ok]; cases g' ds2 <;> rfl
                | _ => rfl
              | false => rfl
            | _ => rfl
          | _ => rfl
    | _ => rfl
  | _ => rfl
@[simp] theorem chainK2_b {g' : List D → Option R} {o2 : Op} {mc : M R} {b : Bool} {e : Env} : chainK2 g' o2 mc (.d (.bl b)) e = if b = true then Res.bind (opd mc e) fun o3 => opK g' [o2, o3] else .ok (.d (.bl false)) e := by cases b <;> rfl
@[simp] theorem toOp_d {x : D} : toOp (.d x) = some (.d x) := nr rfl
@[simp] theorem toOp_lst {x : List D} : toOp (.lst x) = some (.d (.lst x)) := nr rfl
@[simp] theorem toOp_dic {x} : toOp (.dic x) = some (.d (.dic x)) := nr rfl
@[simp] theorem toOp_at {i : Nat} : toOp (.at i) = some (.at i) := nr rfl
@[simp] theorem toOp_fld {i j : Nat} : toOp (.fld i j) = some (.fld i j) := nr rfl
end DV
set_option Elab.async false
set_option linter.all false
set_option maxRecDepth 100000
set_option maxHeartbeats 1000000
/-! DV35: comprehensions and loops over typed things. -/
namespace DV
open PySem L2
abbrev fz (d : D) : O := .f (.fz d)
theorem lcM_run {α : Type} {t : Tg} {c : M Bool} {el : M R} {vs : List Nat} {enc : α → D} {f : α → D} {p : α → Bool} {e0 : Env} : ∀ (xs : List α) (acc : List D),
    acc.length + xs.length ≤ 100000 → (∀ x ∈ xs, ∃ e1, t (enc x) e0 = some e1 ∧ c e1 = .ok (p x) e1 ∧ (p x = true → frz el e1 = .ok (f x) e1) ∧ wipeE e1 vs = e0) →
    lcM t c el vs (xs.map enc) acc e0 = .ok (acc ++ (xs.filter p).map f) e0
  | [], acc, _, _ => by simp [lcM, ret]
  | x :: xs, acc, hl, h => by
    rw [List.length_cons] at hl
    obtain ⟨e1, h1, h2, h3, h4⟩ := h x (by simp)
    have ih := fun acc hl => lcM_run (t := t) (c := c) (el := el) (vs := vs) (enc := enc) (f := f) (p := p) (e0 := e0) xs acc hl fun y hy => h y (List.mem_cons_of_mem _ hy)
    rw [List.map_cons]
    unfold lcM
    rw [h1]
    simp only
    rw [bnd_app, h2, rb_ok]
    cases hp : p x with
    | true =>
      rw [if_pos rfl, bnd_app, h3 hp, rb_ok, if_pos (by omega), h4, ih _ (by rw [List.length_append, List.length_singleton]; omega)]
      simp [hp]
    | false =>
      rw [if_neg (by simp), h4, ih _ (by omega)]
      simp [hp]
theorem comp_run {α : Type} (enc : α → D) (f : α → D) (p : α → Bool) {t : Tg} {c : M Bool} {el : M R} {vs : List Nat} {mi : M (List D)} {env env1 : Env} (xs : List α) (hm : mi env = .ok (xs.map enc) env1) (hp : plainAt env1 vs = true) (hl : xs.length ≤ 100000)
    (hb : backE env1 (wipeE env1 vs) vs = env1) (h : ∀ x ∈ xs, ∃ e1, t (enc x) (wipeE env1 vs) = some e1 ∧ c e1 = .ok (p x) e1 ∧ (p x = true → frz el e1 = .ok (f x) e1) ∧ wipeE e1 vs = wipeE env1 vs) : compM vs mi t c el env = .ok (.lst ((xs.filter p).map f)) env1 := by
  unfold compM
  rw [bnd_app, hm, rb_ok, if_pos hp, lcM_run (f := f) (p := p) xs [] (by simpa using hl) h]
  simp [hb]
/-- without a test -/
theorem comp_map {α : Type} (enc : α → D) (f : α → D) {t : Tg} {el : M R} {vs : List Nat} {mi : M (List D)} {env env1 : Env} (xs : List α) (hm : mi env = .ok (xs.map enc) env1) (hp : plainAt env1 vs = true) (hl : xs.length ≤ 100000)
    (hb : backE env1 (wipeE env1 vs) vs = env1) (h : ∀ x ∈ xs, ∃ e1, t (enc x) (wipeE env1 vs) = some e1 ∧ frz el e1 = .ok (f x) e1 ∧ wipeE e1 vs = wipeE env1 vs) : compM vs mi t (ret true) el env = .ok (.lst (xs.map f)) env1 := by
  have := comp_run enc f (fun _ => true) (c := ret true) (el := el) xs hm hp hl hb fun x hx => by
    obtain ⟨e1, h1, h2, h3⟩ := h x hx
    exact ⟨e1, h1, rfl, fun _ => h2, h3⟩
  rwa [List.filter_eq_self.mpr fun _ _ => rfl] at this
theorem blsOf_map {α : Type} (p : α → Bool) (l : List α) : blsOf (l.map fun a => .bl (p a)) = some (l.map p) := by
  induction l with
  | nil => rfl
  | cons a l ih => rw [List.map_cons, blsOf, ih]; rfl
@[simp] theorem gAll_map {α : Type} (p : α → Bool) (l : List α) : gAll [.lst (l.map fun a => .bl (p a))] = some (.d (.bl (l.all p))) := by
  show (blsOf _).map _ = _
  rw [blsOf_map]
  simp [List.all_map]
@[simp] theorem gAny_map {α : Type} (p : α → Bool) (l : List α) : gAny [.lst (l.map fun a => .bl (p a))] = some (.d (.bl (l.any p))) := by
  show (blsOf _).map _ = _
  rw [blsOf_map]
  simp [List.any_map]
theorem enumD_map {α : Type} (enc : α → D) : ∀ (k : Nat) (xs : List α), enumD k (xs.map enc) = (xs.zipIdx k).map fun p => .tup [.int (p.2 : Nat), enc p.1]
  | _, [] => rfl
  | k, x :: xs => by simp [enumD, enumD_map enc (k + 1) xs]
/-- a for whose turns go from state to state -/
theorem for_fold {α σ : Type} (enc : α → D) (step : σ → α → σ) (es : σ → Env → Prop) {t : Tg} {b : M Fl} : ∀ (xs : List α) (s : σ) (env : Env), es s env →
    (∀ x ∈ xs, ∀ s e, es s e → ∃ e1 e2, t (enc x) e = some e1 ∧ (b e1 = .ok .nx e2 ∨ b e1 = .ok .ct e2) ∧ es (step s x) e2) → ∃ env', forM t b (xs.map enc) env = .ok .nx env' ∧ es (xs.foldl step s) env'
  | [], s, env, h, _ => ⟨env, rfl, h⟩
  | x :: xs, s, env, h, hs => by
    obtain ⟨e1, e2, h1, h2, h3⟩ := hs x (by simp) s env h
    obtain ⟨env', h4, h5⟩ := for_fold enc step es xs (step s x) e2 h3 fun y hy => hs y (List.mem_cons_of_mem _ hy)
    refine ⟨env', ?_, h5⟩
    rw [List.map_cons]
    unfold forM
    rw [h1]
    simp only
    rw [bnd_app]
    rcases h2 with h2 | h2
    · rw [h2, rb_ok]; exact h4
    · rw [h2, rb_ok]; exact h4
/-- the same with an exact state -/
theorem for_foldE {α σ : Type} (enc : α → D) (step : σ → α → σ) (es : σ → Env) {t : Tg} {b : M Fl} (xs : List α) (s : σ) 
    (hs : ∀ x ∈ xs, ∀ s, ∃ e1, t (enc x) (es s) = some e1 ∧ b e1 = .ok .nx (es (step s x))) : forM t b (xs.map enc) (es s) = .ok .nx (es (xs.foldl step s)) := by
  obtain ⟨e', h, rfl⟩ := for_fold enc step (fun s e => e = es s) (t := t) (b := b) xs s (es s) rfl fun x hx s e he => by
    subst he
    obtain ⟨e1, h1, h2⟩ := hs x hx s
    exact ⟨e1, _, h1, .inl h2, rfl⟩
  exact h
/-- a for by what holds ahead of each turn -/
theorem for_inv (I : Nat → Env → Prop) {t : Tg} {b : M Fl} : ∀ (ds : List D) (k : Nat) (env : Env), I k env →
    (∀ j d e, ds[j]? = some d → I (k + j) e → ∃ e1 e2, t d e = some e1 ∧ (b e1 = .ok .nx e2 ∨ b e1 = .ok .ct e2) ∧ I (k + j + 1) e2) → ∃ env', forM t b ds env = .ok .nx env' ∧ I (k + ds.length) env'
  | [], k, env, h, _ => ⟨env, rfl, h⟩
  | d :: ds, k, env, h, hs => by
    obtain ⟨e1, e2, h1, h2, h3⟩ := hs 0 d env rfl h
    obtain ⟨env', h4, h5⟩ := for_inv I ds (k + 1) e2 h3 fun j x e hj hi => by
      have := hs (j + 1) x e (by simpa using hj) (by rw [show k + (j + 1) = k + 1 + j by omega]; exact hi)
      rwa [show k + (j + 1) + 1 = k + 1 + j + 1 by omega] at this
    refine ⟨env', ?_, by rwa [List.length_cons, show k + (ds.length + 1) = k + 1 + ds.length by omega]⟩
    unfold forM
    rw [h1]
    simp only
    rw [bnd_app]
    rcases h2 with h2 | h2
    · rw [h2, rb_ok]; exact h4
    · rw [h2, rb_ok]; exact h4
theorem lcM_some {σ : Type} (E : σ → Env) (good : σ → Prop) (P : D → Prop) {t : Tg} {el : M R} {vs : List Nat} : ∀ (ds acc : List D) (s : σ), good s → acc.length + ds.length ≤ 100000 →
    (∀ d ∈ ds, ∀ s, good s → ∃ e1 e2 x s', t d (E s) = some e1 ∧ frz el e1 = .ok x e2 ∧ wipeE e2 vs = E s' ∧ good s' ∧ P x) →
    ∃ xs s', lcM t (ret true) el vs ds acc (E s) = .ok (acc ++ xs) (E s') ∧ good s' ∧ xs.length = ds.length ∧ ∀ x ∈ xs, P x
  | [], acc, s, hg, _, _ => ⟨[], s, by simp [lcM, ret], hg, rfl, by simp⟩
  | d :: ds, acc, s, hg, hl, h => by
    rw [List.length_cons] at hl
    obtain ⟨e1, e2, x, s1, h1, h2, h3, h4, h5⟩ := h d (by simp) s hg
    obtain ⟨xs, s', h6, h7, h8, h9⟩ := lcM_some E good P (t := t) (el := el) (vs := vs) ds (acc ++ [x]) s1 h4 (by rw [List.length_append, List.length_singleton]; omega) fun y hy => h y (List.mem_cons_of_mem _ hy)
    refine ⟨x :: xs, s', ?_, h7, by simp [h8], fun y hy => ?_⟩
    · unfold lcM
      rw [h1]
      simp only
      rw [bnd_app, ret_app, rb_ok, if_pos rfl, bnd_app, h2, rb_ok, if_pos (by omega), h3, h6]
      simp
    · rcases List.mem_cons.mp hy with rfl | hy
      · exact h5
      · exact h9 y hy
theorem comp_some {σ : Type} (E : σ → Env) (good : σ → Prop) (P : D → Prop) {t : Tg} {el : M R} {vs : List Nat} {mi : M (List D)} {env env1 : Env} {ds : List D} {s : σ} (hm : mi env = .ok ds env1) (hp : plainAt env1 vs = true) (hw : wipeE env1 vs = E s) (hg : good s) (hl : ds.length ≤ 100000)
    (h : ∀ d ∈ ds, ∀ s, good s → ∃ e1 e2 x s', t d (E s) = some e1 ∧ frz el e1 = .ok x e2 ∧ wipeE e2 vs = E s' ∧ good s' ∧ P x) : ∃ xs s', compM vs mi t (ret true) el env = .ok (.lst xs) (backE env1 (E s') vs) ∧ good s' ∧ xs.length = ds.length ∧ ∀ x ∈ xs, P x := by
  obtain ⟨xs, s', h1, h2, h3, h4⟩ := lcM_some E good P (t := t) (el := el) (vs := vs) ds [] s hg (by simpa using hl) h
  refine ⟨xs, s', ?_, h2, h3, h4⟩
  unfold compM
  rw [bnd_app, hm, rb_ok, if_pos hp, hw, h1]
  simp
theorem map_of {α : Type} {enc : α → D} {Q : α → Prop} : ∀ {xs : List D}, (∀ x ∈ xs, ∃ a, x = enc a ∧ Q a) → ∃ as : List α, xs = as.map enc ∧ ∀ a ∈ as, Q a
  | [], _ => ⟨[], rfl, by simp⟩
  | x :: xs, h => by
    obtain ⟨a, rfl, ha⟩ := h x (by simp)
    obtain ⟨as, rfl, hs⟩ := map_of fun y hy => h y (List.mem_cons_of_mem _ hy)
    exact ⟨a :: as, rfl, fun b hb => by
      rcases List.mem_cons.mp hb with rfl | hb
      · exact ha
      · exact hs b hb⟩
end DV

set_option Elab.async false
set_option linter.all false
set_option maxRecDepth 100000
set_option maxHeartbeats 1000000
/-! DV36: equal things. -/
namespace DV
open PySem L2
mutual
/-- data of which == is being the same: no truth values, no dicts -/
def D.nb : D → Bool
  | .non => true
  | .int _ => true
  | .str _ => true
  | .lst xs => D.nbs xs
  | .tup xs => D.nbs xs
  | _ => false
def D.nbs : List D → Bool
  | [] => true
  | x :: xs => D.nb x && D.nbs xs
end
mutual
theorem eqv_iff : ∀ (a b : D), a.nb = true → b.nb = true → (D.eqv a b = true ↔ a = b)
  | .non, b, _, hb => by cases b <;> simp_all [D.eqv, D.nb]
  | .int i, b, _, hb => by cases b <;> simp_all [D.eqv, D.nb]
  | .str i, b, _, hb => by cases b <;> simp_all [D.eqv, D.nb]
  | .lst xs, b, ha, hb => by
    cases b with
    | lst ys =>
      have := eqvs_iff xs ys (by simpa [D.nb] using ha) (by simpa [D.nb] using hb)
      simp only [D.eqv, this, D.lst.injEq]
    | _ => simp_all [D.eqv, D.nb]
  | .tup xs, b, ha, hb => by
    cases b with
    | tup ys =>
      have := eqvs_iff xs ys (by simpa [D.nb] using ha) (by simpa [D.nb] using hb)
      simp only [D.eqv, this, D.tup.injEq]
    | _ => simp_all [D.eqv, D.nb]
  | .bl _, _, ha, _ => by simp [D.nb] at ha
  | .dic _, _, ha, _ => by simp [D.nb] at ha
  | .wtup _, _, ha, _ => by simp [D.nb] at ha
  | .scr _, _, ha, _ => by simp [D.nb] at ha
theorem eqvs_iff : ∀ (a b : List D), D.nbs a = true → D.nbs b = true → (D.eqvs a b = true ↔ a = b)
  | [], [], _, _ => by simp [D.eqvs]
  | [], _ :: _, _, _ => by simp [D.eqvs]
  | _ :: _, [], _, _ => by simp [D.eqvs]
  | x :: xs, y :: ys, ha, hb => by
    simp only [D.nbs, Bool.and_eq_true] at ha hb
    simp only [D.eqvs, Bool.and_eq_true, eqv_iff x y ha.1 hb.1, eqvs_iff xs ys ha.2 hb.2, List.cons.injEq]
end
mutual
theorem eqv_refl : ∀ (n : Nat) (a : D), a.okd n = true → D.eqv a a = true
  | _, .non, _ => rfl
  | _, .bl b, _ => by simp [D.eqv]
  | _, .int i, _ => by simp [D.eqv]
  | _, .str s, _ => by simp [D.eqv]
  | n + 1, .lst xs, h => by simp only [D.eqv]; exact eqvs_refl n xs (by simpa [D.okd] using h)
  | n + 1, .tup xs, h => by simp only [D.eqv]; exact eqvs_refl n xs (by simpa [D.okd] using h)
  | n + 1, .wtup xs, h => by simp only [D.eqv]; exact eqvs_refl n xs (by simpa [D.okd] using h)
  | 0, .lst xs, h => by simp [D.okd] at h
  | 0, .tup xs, h => by simp [D.okd] at h
  | 0, .wtup xs, h => by simp [D.okd] at h
  | _, .dic _, h => by simp [D.okd] at h
  | _, .scr _, h => by simp [D.okd] at h
theorem eqvs_refl : ∀ (n : Nat) (a : List D), D.okds n a = true → D.eqvs a a = true
  | _, [], _ => rfl
  | n, x :: xs, h => by
    simp only [D.okds, Bool.and_eq_true] at h
    simp only [D.eqvs, Bool.and_eq_true]
    exact ⟨eqv_refl n x h.1, eqvs_refl n xs h.2⟩
end
theorem okds_iff {n : Nat} : ∀ {xs : List D}, D.okds n xs = true ↔ ∀ x ∈ xs, x.okd n = true
  | [] => by simp [D.okds]
  | x :: xs => by simp [D.okds, okds_iff (xs := xs)]
theorem nbs_iff : ∀ {xs : List D}, D.nbs xs = true ↔ ∀ x ∈ xs, x.nb = true
  | [] => by simp [D.nbs]
  | x :: xs => by simp [D.nbs, nbs_iff (xs := xs)]
theorem gEq_ok {a b : D} (ha : a.okd 20 = true) (hb : b.okd 20 = true) : gEq [a, b] = some (.d (.bl (D.eqv a b))) := by
  show (if _ then _ else _) = _
  rw [if_pos (by simp [ha, hb])]
theorem gNe_ok {a b : D} (ha : a.okd 20 = true) (hb : b.okd 20 = true) : gNe [a, b] = some (.d (.bl (!D.eqv a b))) := by
  show (if _ then _ else _) = _
  rw [if_pos (by simp [ha, hb])]
theorem eqvs_map {α : Type} [DecidableEq α] (enc : α → D) (h : ∀ a b, D.eqv (enc a) (enc b) = decide (a = b)) : ∀ (xs ys : List α), D.eqvs (xs.map enc) (ys.map enc) = decide (xs = ys)
  | [], [] => by simp [D.eqvs]
  | [], _ :: _ => by simp [D.eqvs]
  | _ :: _, [] => by simp [D.eqvs]
  | x :: xs, y :: ys => by
    simp only [List.map_cons, D.eqvs, h, eqvs_map enc h xs ys, List.cons.injEq]
    by_cases h1 : x = y <;> by_cases h2 : xs = ys <;> simp [h1, h2]
@[simp] theorem eqv_ii {i j : Int} : D.eqv (.int i) (.int j) = decide (i = j) := by by_cases h : i = j <;> simp [D.eqv, h]
@[simp] theorem eqv_ss {i j : List Nat} : D.eqv (.str i) (.str j) = decide (i = j) := by by_cases h : i = j <;> simp [D.eqv, h]
theorem eqv_nn {i j : Nat} : D.eqv (.int i) (.int j) = decide (i = j) := by
  rw [eqv_ii]
  by_cases h : i = j
  · simp [h]
  · have : ¬ (i : Int) = j := by omega
    simp [h, this]
@[simp] theorem eqv_lst {xs ys : List D} : D.eqv (.lst xs) (.lst ys) = D.eqvs xs ys := by simp [D.eqv]
@[simp] theorem eqv_tup {xs ys : List D} : D.eqv (.tup xs) (.tup ys) = D.eqvs xs ys := by simp [D.eqv]
theorem gEq_ints (xs ys : List Int) : gEq [.lst (xs.map .int), .lst (ys.map .int)] = some (.d (.bl (decide (xs = ys)))) := by
  rw [gEq_ok, eqv_lst, eqvs_map .int (fun a b => eqv_ii)]
  · simp [D.okd, okds_iff]
  · simp [D.okd, okds_iff]
@[simp] theorem raiseM_app {c : Nat} {ms : List (M R)} {e : DV.Env} : raiseM c ms e = Res.bind (fargs ms e) fun ds e => .exc ⟨c, ds.reverse⟩ e := bnd_app
@[simp] theorem tryM_app {b : M Fl} {hs : List Hd} {e : DV.Env} : tryM b hs e = match b e with
  | .exc x e => handle x e hs
  | r => r := by
  unfold tryM
  cases b e <;> rfl
end DV

set_option Elab.async false
set_option linter.all false
set_option maxRecDepth 100000
set_option maxHeartbeats 4000000
/-! What words and actions give. -/
namespace Lib
open L2 DV PySem
def LETS : List Nat := [97, 65, 98, 66, 99, 67]
def ltr (r : Nat) : List Nat := LETS.take (2 * r)
theorem is_between_i (i a b : Int) : f_is_between [fz (.int i), fz (.int a), fz (.int b)] = .ret (fz (.bl (decide (a ≤ i ∧ i ≤ b)))) [fz (.int i), fz (.int a), fz (.int b)] := by
  unfold f_is_between
  rw [bodyF_app]
  unfold m_is_between
  by_cases h1 : a ≤ i <;> by_cases h2 : i ≤ b <;> simp [entry, ldM, h1, h2]
theorem is_rank_i (i : Int) : f_is_rank [fz (.int i)] = .ret (fz (.bl (decide (1 ≤ i ∧ i ≤ 3)))) [fz (.int i)] := by
  unfold f_is_rank
  rw [bodyF_app]
  unfold m_is_rank
  simp [entry, ldM, is_between_i]
theorem cut_ltr (r : Nat) : cutL [97, 65, 98, 66, 99, 67] none (some (2 * (r : Int))) = ltr r := by
  rw [show (2 * (r : Int)) = ((2 * r : Nat) : Int) by omega, cut_to]
  rfl
theorem letters_of_ok (r : Nat) : f_letters_of [fz (.int (r : Int))] = .ret (fz (.str (ltr r))) [fz (.int (r : Int))] := by
  unfold f_letters_of
  rw [bodyF_app]
  unfold m_letters_of
  simp [entry, ldM, gSl01, slD, cut_ltr]
theorem law_letters_ok (r : Nat) : f__law_letters [fz (.int (r : Int))] = .ret (fz (.str (ltr r))) [fz (.int (r : Int))] := by
  unfold f__law_letters
  rw [bodyF_app]
  unfold m__law_letters
  simp [entry, ldM, gSl01, slD, cut_ltr]
@[simp] theorem gIn_cs {c : Nat} {b : List Nat} : gIn [.str [c], .str b] = some (.d (.bl (decide (c ∈ b)))) := by simp [gIn, inD, strIn]
theorem is_letters_s (w : List Nat) (r : Nat) (h : w.length < 100000) : f_is_letters [fz (.str w), fz (.int (r : Int))] = .ret (fz (.bl (w.all fun c => decide (c ∈ ltr r)))) [fz (.str w), fz (.int (r : Int))] := by
  have hc : compM [2] (itV (ldM 0)) (stD 2) (ret true) e1_is_letters [some (fz (.str w)), some (fz (.int (r : Int))), none] = .ok (.lst (w.map fun c => .bl (decide (c ∈ ltr r)))) [some (fz (.str w)), some (fz (.int (r : Int))), none] :=
    comp_map (fun c => .str [c]) _ w (by simp [ldM]) rfl (by omega) rfl fun c hc => ⟨_, rfl, by simp [e1_is_letters, ldM, letters_of_ok, wipeE], rfl⟩
  unfold f_is_letters
  rw [bodyF_app]
  unfold m_is_letters
  simp [entry, ldM, hc]
def isWd (r : Nat) (w : List Nat) : Bool := w.all fun c => decide (c ∈ ltr r)
theorem is_word_s (w : List Nat) (r : Nat) (h : w.length < 100000) : f_is_word [fz (.str w), fz (.int (r : Int))] = .ret (fz (.bl (decide (1 ≤ r ∧ r ≤ 3) && (isWd r w && decide (w.length ≤ 24))))) [fz (.str w), fz (.int (r : Int))] := by
  have e1 : (1 ≤ (r : Int) ∧ (r : Int) ≤ 3) ↔ (1 ≤ r ∧ r ≤ 3) := by omega
  have e2 : ((w.length : Int) ≤ 24) ↔ w.length ≤ 24 := by omega
  unfold f_is_word
  rw [bodyF_app]
  unfold m_is_word isWd
  by_cases h1 : 1 ≤ r ∧ r ≤ 3
  · cases h2 : w.all fun c => decide (c ∈ ltr r) with
    | true => simp [entry, ldM, is_rank_i, is_letters_s, h, h1, h2, e1, e2]
    | false => simp [entry, ldM, is_rank_i, is_letters_s, h, h1, h2, e1]
  · simp [entry, ldM, is_rank_i, h1, e1]
/-! ### letters -/
def small (c : Nat) : Bool := decide (c ∈ [97, 98, 99])
def lowc (c : Nat) : Nat := if c = 65 then 97 else if c = 66 then 98 else if c = 67 then 99 else c
def kOf (c : Nat) : Nat := lowc c - 97
def opp (c : Nat) : Nat := if c = 65 then 97 else if c = 66 then 98 else if c = 67 then 99 else if c = 97 then 65 else if c = 98 then 66 else if c = 99 then 67 else c
theorem lets_cases {c : Nat} (h : c ∈ LETS) : c = 97 ∨ c = 65 ∨ c = 98 ∨ c = 66 ∨ c = 99 ∨ c = 67 := by simpa [LETS] using h
theorem ltr_sub {r c : Nat} (h : c ∈ ltr r) : c ∈ LETS := List.mem_of_mem_take h
theorem gLow {c : Nat} (h : c ∈ LETS) : gS1 Txt.lower [.str [c]] = some (.d (.str [lowc c])) := by
  have : (Txt.lower ⟨[c].toArray⟩).cps.toList = [lowc c] := by
    rcases lets_cases h with rfl | rfl | rfl | rfl | rfl | rfl <;> decide +kernel
  unfold gS1
  simp only [this]
  rfl
theorem gKind {c : Nat} (h : c ∈ LETS) : gSIx [.str [97, 98, 99], .str [lowc c]] = some (.d (.int (kOf c : Nat))) := by
  have : sIdx [97, 98, 99] [lowc c] = some (kOf c) := by
    rcases lets_cases h with rfl | rfl | rfl | rfl | rfl | rfl <;> decide +kernel
  show (sIdx _ _).map _ = _
  rw [this]
  rfl
/-! ### actions -/
abbrev nD (n : Nat) : D := .int (n : Int)
def rowD (r : List Nat) : D := .wtup (r.map nD)
def actD (rows : List (List Nat)) : D := .wtup (rows.map rowD)
def imgL (rows : List (List Nat)) (p c : Nat) : Nat := if small c = true then (rows.getD (kOf c) []).getD p 0 else (rows.getD (kOf c) []).idxOf p
def retL (rows : List (List Nat)) (w : List Nat) : Bool := w.foldl (imgL rows) 0 == 0
/-- a permutation for each kind of letters, of m points -/
def PermsOf (m : Nat) (rows : List (List Nat)) : Prop := ∀ row ∈ rows, row.Perm (List.range m)
theorem idxOf_int (l : List Nat) (p : Nat) : (l.map fun n : Nat => (n : Int)).idxOf (p : Int) = l.idxOf p := by
  induction l with
  | nil => rfl
  | cons a l ih =>
    have e : ((a : Int) == (p : Int)) = (a == p) := by
      by_cases h : a = p
      · simp [h]
      · have h2 : ¬ (a : Int) = p := by omega
        rw [beq_eq_false_iff_ne.mpr h, beq_eq_false_iff_ne.mpr h2]
    rw [List.map_cons, List.idxOf_cons, List.idxOf_cons, ih, e]
theorem gTIx_row (row : List Nat) (p : Nat) (h : p ∈ row) : gTIx [rowD row, .int (p : Int)] = some (.d (.int (row.idxOf p : Nat))) := by
  have e : row.map nD = (row.map fun n : Nat => (n : Int)).map .int := by rw [List.map_map]; rfl
  unfold rowD gTIx
  simp only [e, intsOf_map, Option.bind_some]
  rw [if_pos (List.mem_map_of_mem (f := fun n : Nat => (n : Int)) h), idxOf_int]
theorem perm_len {m : Nat} {row : List Nat} (h : row.Perm (List.range m)) : row.length = m := by simpa using h.length_eq
theorem perm_get {m p : Nat} {row : List Nat} (h : row.Perm (List.range m)) (hp : p < m) : ∃ q, row[p]? = some q ∧ q < m := by
  have hl := perm_len h
  refine ⟨row[p], by simp [hl, hp], ?_⟩
  have := h.mem_iff.mp (List.getElem_mem (by omega : p < row.length))
  simpa using this
theorem perm_mem {m p : Nat} {row : List Nat} (h : row.Perm (List.range m)) (hp : p < m) : p ∈ row := h.mem_iff.mpr (by simpa using hp)
theorem perm_idx {m p : Nat} {row : List Nat} (h : row.Perm (List.range m)) (hp : p < m) : row.idxOf p < m := by
  rw [← perm_len h]; exact List.idxOf_lt_length_iff.mpr (perm_mem h hp)
theorem kOf_lt {r c : Nat} (h : c ∈ ltr r) (hr : r ≤ 3) : kOf c < r := by
  rcases (by omega : r = 0 ∨ r = 1 ∨ r = 2 ∨ r = 3) with rfl | rfl | rfl | rfl <;> simp [ltr, LETS] at h
  · rcases h with rfl | rfl <;> decide
  · rcases h with rfl | rfl | rfl | rfl <;> decide
  · rcases h with rfl | rfl | rfl | rfl | rfl | rfl <;> decide
theorem imgL_lt {m p c r : Nat} {rows : List (List Nat)} (h : PermsOf m rows) (hr : rows.length = r) (hr3 : r ≤ 3) (hc : c ∈ ltr r) (hp : p < m) : imgL rows p c < m := by
  have hk : kOf c < rows.length := by rw [hr]; exact kOf_lt hc hr3
  have hrow : rows.getD (kOf c) [] ∈ rows := by
    rw [List.getD_eq_getElem?_getD, List.getElem?_eq_getElem hk]; exact List.getElem_mem hk
  have hperm := h _ hrow
  unfold imgL
  split
  · obtain ⟨q, h1, h2⟩ := perm_get hperm hp
    rw [List.getD_eq_getElem?_getD, h1]; exact h2
  · exact perm_idx hperm hp
theorem image_by_ok (rows : List (List Nat)) (m p c r : Nat) (h : PermsOf m rows) (hr : rows.length = r) (hr3 : r ≤ 3) (hc : c ∈ ltr r) (hp : p < m) :
    f_image_by [fz (actD rows), fz (.int (p : Int)), fz (.str [c])] = .ret (fz (.int (imgL rows p c : Nat))) [fz (actD rows), fz (.int (p : Int)), fz (.str [c])] := by
  have hk : kOf c < rows.length := by rw [hr]; exact kOf_lt hc hr3
  have hrow : rows[kOf c] ∈ rows := List.getElem_mem hk
  have hperm := h _ hrow
  have hL := ltr_sub hc
  have hg : rows.getD (kOf c) [] = rows[kOf c] := by rw [List.getD_eq_getElem?_getD, List.getElem?_eq_getElem hk]; rfl
  obtain ⟨q, h1, h2⟩ := perm_get hperm hp
  have ht := gTIx_row _ _ (perm_mem hperm hp)
  unfold rowD at ht
  unfold f_image_by
  rw [bodyF_app]
  unfold m_image_by imgL
  rw [hg]
  by_cases hs : c ∈ [97, 98, 99]
  · have hs' : small c = true := by simp [small] at hs ⊢; exact hs
    simp [-List.mem_cons, entry, ldM, actD, gLow hL, gKind hL, hk, hs, hs', rowD, h1]
  · have hs' : small c = false := by simp [small] at hs ⊢; exact hs
    simp [-List.mem_cons, entry, ldM, actD, gLow hL, gKind hL, hk, hs, hs', rowD, ht]
theorem foldl_img_lt {m r : Nat} {rows : List (List Nat)} (h : PermsOf m rows) (hr : rows.length = r) (hr3 : r ≤ 3) : ∀ (w : List Nat) (p : Nat), (∀ c ∈ w, c ∈ ltr r) → p < m → w.foldl (imgL rows) p < m
  | [], p, _, hp => hp
  | c :: w, p, hw, hp => foldl_img_lt h hr hr3 w _ (fun x hx => hw x (List.mem_cons_of_mem _ hx)) (imgL_lt h hr hr3 (hw c (by simp)) hp)
theorem image_of_ok (rows : List (List Nat)) (m p r : Nat) (w : List Nat) (h : PermsOf m rows) (hr : rows.length = r) (hr3 : r ≤ 3) (hw : ∀ c ∈ w, c ∈ ltr r) (hp : p < m) :
    f_image_of [fz (actD rows), fz (.int (p : Int)), fz (.str w)] = .ret (fz (.int (w.foldl (imgL rows) p : Nat))) [fz (actD rows), fz (.int (p : Int)), fz (.str w)] := by
  obtain ⟨e', h1, h2, x, rfl⟩ := for_fold (fun c : Nat => D.str [c]) (imgL rows) (fun s e => s < m ∧ ∃ x, e = [some (fz (actD rows)), some (fz (.int (s : Int))), some (fz (.str w)), x]) (t := stD 3) (b := b1_image_of) w p
    [some (fz (actD rows)), some (fz (.int (p : Int))), some (fz (.str w)), none] ⟨hp, none, rfl⟩ fun c hc s e ⟨hs, x, he⟩ => by
      subst he
      refine ⟨_, _, rfl, .inl ?_, imgL_lt h hr hr3 (hw c hc) hs, some (fz (.str [c])), rfl⟩
      simp [b1_image_of, ldM, image_by_ok rows m s c r h hr hr3 (hw c hc) hs]
  unfold f_image_of
  rw [bodyF_app]
  unfold m_image_of
  have h3 : forM (stD 3) b1_image_of (w.map fun c => .str [c]) [some (fz (actD rows)), some (fz (.int (p : Int))), some (fz (.str w)), none] = _ := h1
  simp [entry, ldM, bnd_app, h3]
theorem returns_in_ok (rows : List (List Nat)) (m r : Nat) (w : List Nat) (h : PermsOf m rows) (hr : rows.length = r) (hr3 : r ≤ 3) (hw : ∀ c ∈ w, c ∈ ltr r) (hm : 0 < m) :
    f_returns_in [fz (actD rows), fz (.str w)] = .ret (fz (.bl (retL rows w))) [fz (actD rows), fz (.str w)] := by
  have := image_of_ok rows m 0 r w h hr hr3 hw hm
  unfold f_returns_in
  rw [bodyF_app]
  unfold m_returns_in retL
  have e : ((w.foldl (imgL rows) 0 : Nat) : Int) = 0 ↔ w.foldl (imgL rows) 0 = 0 := by omega
  simp at this
  by_cases h0 : w.foldl (imgL rows) 0 = 0 <;> simp [entry, ldM, this, e, h0]
theorem is_integer_i2 (i : Int) : f_is_integer [fz (.int i)] = .ret (fz (.bl true)) [fz (.int i)] := by
  unfold f_is_integer
  rw [bodyF_app]
  unfold m_is_integer
  simp [entry, ldM]
theorem sortI_perm_range {m : Nat} {row : List Nat} (h : row.Perm (List.range m)) : sortI (row.map fun n : Nat => (n : Int)) = (List.range m).map fun n : Nat => (n : Int) := by
  refine sorted_eq ((sortI_perm _).trans (h.map _)) (sortI_sorted _) ?_
  rw [List.pairwise_map]
  have := List.pairwise_le_range (n := m)
  exact this.imp fun h => by omega
theorem gSort_row {m : Nat} {row : List Nat} (h : row.Perm (List.range m)) (hm : m < 100000) : gSort [rowD row] = some (.lst (((List.range m).map fun n : Nat => (n : Int)).map .int)) := by
  have e : row.map nD = (row.map fun n : Nat => (n : Int)).map .int := by rw [List.map_map]; rfl
  have hl : row.length < 100000 := by rw [perm_len h]; exact hm
  unfold rowD gSort
  simp only [seqOf, Option.bind_some, e, intsOf_map, sortI_perm_range h]
  rw [if_pos (by simpa using hl)]
theorem rgV_map (m : Nat) : DV.rgV 0 m = ((List.range m).map fun n : Nat => (n : Int)).map D.int := by
  unfold DV.rgV
  rw [List.map_map]
  apply List.map_congr_left
  intro a _
  simp
theorem is_perm_ok (row : List Nat) (m : Nat) (h : row.Perm (List.range m)) (hm : m < 100000) : f_is_permutation [fz (rowD row), fz (.int (m : Int))] = .ret (fz (.bl true)) [fz (rowD row), fz (.int (m : Int))] := by
  have hl := perm_len h
  have hc : compM [2] (itV (ldM 0)) (stD 2) (ret true) e1_is_permutation [some (fz (rowD row)), some (fz (.int (m : Int))), none] = .ok (.lst (row.map fun _ => .bl true)) [some (fz (rowD row)), some (fz (.int (m : Int))), none] :=
    comp_map nD _ row (by simp [ldM, rowD]) rfl (by omega) rfl fun c hc => ⟨_, rfl, by simp [e1_is_permutation, ldM, is_integer_i2, wipeE], rfl⟩
  have ha : gAll [.lst (row.map fun _ => .bl true)] = some (.d (.bl true)) := by
    rw [gAll_map (fun _ => true)]; simp
  have hs := gSort_row h hm
  have hg := gEq_ints ((List.range m).map fun n : Nat => (n : Int)) ((List.range m).map fun n : Nat => (n : Int))
  rw [← rgV_map] at hs hg
  have hn : gNe [.int (m : Int), .int (m : Int)] = some (.d (.bl false)) := by simp
  have hlen : gLen [rowD row] = some (.d (.int (m : Int))) := by simp [rowD, hl]
  have hty : gIsi "tuple" [rowD row] = some (.d (.bl true)) := isi_tuple_wtup
  unfold f_is_permutation
  rw [bodyF_app]
  unfold m_is_permutation
  simp only [decide_true] at hg
  simp [entry, ldM, hc, ha, hs, hg, hm, hlen, hty]
/-- an action of the rank r -/
structure Act (r : Nat) (rows : List (List Nat)) : Prop where
  len : rows.length = r
  r1 : 1 ≤ r
  r3 : r ≤ 3
  pts : ∃ m, 1 ≤ m ∧ m ≤ 60 ∧ PermsOf m rows
theorem Act.returns {r : Nat} {rows : List (List Nat)} (A : Act r rows) (w : List Nat) (hw : ∀ c ∈ w, c ∈ ltr r) : f_returns_in [fz (actD rows), fz (.str w)] = .ret (fz (.bl (retL rows w))) [fz (actD rows), fz (.str w)] := by
  obtain ⟨m, h1, h2, h3⟩ := A.pts
  exact returns_in_ok rows m r w h3 A.len A.r3 hw h1
theorem is_action_ok (r : Nat) (rows : List (List Nat)) (A : Act r rows) : f_is_action [fz (actD rows), fz (.int (r : Int))] = .ret (fz (.bl true)) [fz (actD rows), fz (.int (r : Int))] := by
  obtain ⟨m, h1, h2, h3⟩ := A.pts
  have hl := A.len
  have hpos : 0 < rows.length := by have := A.r1; omega
  have h0 : (rows.map rowD)[0]? = some (rowD rows[0]) := by simp [hpos]
  have hm0 : (rows[0]).length = m := perm_len (h3 _ (List.getElem_mem hpos))
  have hc : compM [3] (itV (ldM 0)) (stD 3) (ret true) e1_is_action [some (fz (actD rows)), some (fz (.int (r : Int))), some (fz (.int (m : Int))), none] = .ok (.lst (rows.map fun _ => .bl true)) [some (fz (actD rows)), some (fz (.int (r : Int))), some (fz (.int (m : Int))), none] :=
    comp_map rowD _ rows (by simp [ldM, actD]) rfl (by have := A.r3; omega) rfl fun c hc => ⟨_, rfl, by simp [e1_is_action, ldM, is_perm_ok c m (h3 c hc) (by omega), wipeE], rfl⟩
  have ha : gAll [.lst (rows.map fun _ => .bl true)] = some (.d (.bl true)) := by
    rw [gAll_map (fun _ => true)]; simp
  have hty : gIsi "tuple" [actD rows] = some (.d (.bl true)) := isi_tuple_wtup
  have hty2 : gIsi "tuple" [rowD rows[0]] = some (.d (.bl true)) := isi_tuple_wtup
  have hlen : gLen [actD rows] = some (.d (.int (r : Int))) := by simp [actD, hl]
  have hlen2 : gLen [rowD rows[0]] = some (.d (.int (m : Int))) := by simp [rowD, hm0]
  have hix : gIx [actD rows, .int 0] = some (.d (rowD rows[0])) := by simp [actD, hpos]
  have htr : truD (actD rows) = some true := by
    cases rows with
    | nil => simp at hpos
    | cons a l => rfl
  have e1 : (1 : Int) ≤ m := by omega
  have e2 : (m : Int) ≤ 60 := by omega
  unfold f_is_action
  rw [bodyF_app]
  unfold m_is_action
  simp [entry, ldM, hc, ha, hty, hty2, hlen, hlen2, hix, htr, e1, e2]
/-! ### the laws' own words -/
abbrev stO (s : S3) : O := .f (.lst (strl s))
theorem next_n (s : S3) (m : Nat) (M : Int) (hM : M = m) (hk : 0 ≤ s.k) (hm : 0 < m) (hm2 : m < 1073741824) :
    ∃ (d : Nat) (s' : S3), f__law_next [stO s, fz (.int M)] = .ret (fz (.int (d : Int))) [stO s', fz (.int M)] ∧ 0 ≤ s'.k ∧ d < m := by
  subst hM
  exact next_nat s m hk hm hm2
theorem ltr_get {r d : Nat} (hr : r ≤ 3) (hd : d < 2 * r) : ∃ c, (ltr r)[d]? = some c ∧ c ∈ ltr r := by
  have hl : (ltr r).length = 2 * r := by
    unfold ltr
    rw [List.length_take]
    show min (2 * r) 6 = 2 * r
    omega
  exact ⟨(ltr r)[d], by simp [hl, hd], List.getElem_mem _⟩
theorem ltr_len {r : Nat} (hr : r ≤ 3) : (ltr r).length = 2 * r := by
  unfold ltr
  rw [List.length_take]
  show min (2 * r) 6 = 2 * r
  omega
theorem law_word_ok (s : S3) (r most : Nat) (hk : 0 ≤ s.k) (hr : 1 ≤ r) (hr3 : r ≤ 3) (hm : most < 1000) :
    ∃ (w : List Nat) (s' : S3), f__law_word [stO s, fz (.int (r : Int)), fz (.int (most : Int))] = .ret (fz (.str w)) [stO s', fz (.int (r : Int)), fz (.int (most : Int))] ∧ 0 ≤ s'.k ∧ w.length ≤ most ∧ ∀ c ∈ w, c ∈ ltr r := by
  obtain ⟨n, s1, h1, hk1, hn⟩ := next_nat s (most + 1) hk (by omega) (by omega)
  have hl := ltr_len hr3
  obtain ⟨xs, s2, h2, hk2, h3, h4⟩ := comp_some (t := stD 4) (el := e1__law_word) (vs := [4]) (mi := itR1 (callM f__law_next [(true, (ldM 0)), (false, (opM gAdd [(ldM 2), (DV.ret (.d (.int 1)))]))])) (env := [some (stO s), some (fz (.int (r : Int))), some (fz (.int (most : Int))), some (fz (.str (ltr r))), none])
    (fun s : S3 => [some (stO s), some (fz (.int (r : Int))), some (fz (.int (most : Int))), some (fz (.str (ltr r))), none]) (fun s => 0 ≤ s.k) (fun x => ∃ c, x = .str [c] ∧ c ∈ ltr r) (s := s1) (ds := DV.rgV 0 n)
    (env1 := [some (stO s1), some (fz (.int (r : Int))), some (fz (.int (most : Int))), some (fz (.str (ltr r))), none])
    (by
      rw [show ((most + 1 : Nat) : Int) = (most : Int) + 1 by omega] at h1
      simp [ldM, vws_at, vw, osOf_at, h1, small_nat (show n < 100000 by omega)]) rfl rfl hk1 (by simp [DV.rgV]; omega) fun d hd s hs => by
      obtain ⟨k, s', h5, h6, h7⟩ := next_nat s (2 * r) hs (by omega) (by omega)
      obtain ⟨c, h8, h9⟩ := ltr_get hr3 h7
      refine ⟨_, [some (stO s'), some (fz (.int (r : Int))), some (fz (.int (most : Int))), some (fz (.str (ltr r))), some (fz d)], .str [c], s', rfl, ?_, rfl, h6, c, rfl, h9⟩
      rw [show ((2 * r : Nat) : Int) = 2 * (r : Int) by omega] at h5
      have hl2 : 2 * r < 100000 := by omega
      simp [e1__law_word, ldM, osOf_at, hl, h5, h8, hl2]
  obtain ⟨w, rfl, hw⟩ := map_of h4
  have hlen : w.length = n := by simpa [DV.rgV] using h3
  refine ⟨w, s2, ?_, hk2, by omega, hw⟩
  unfold f__law_word
  rw [bodyF_app]
  unfold m__law_word
  have hj := gJoin_letters w (by omega)
  simp [entry, ldM, law_letters_ok, h2, hj, backE]
theorem gOppIx {c : Nat} (h : c ∈ LETS) : ∃ k, gSIx [.str [97, 65, 98, 66, 99, 67], .str [c]] = some (.d (.int ((k : Nat) : Int))) ∧ ([65, 97, 66, 98, 67, 99] : List Nat)[k]? = some (opp c) := by
  have : ∃ k, sIdx [97, 65, 98, 66, 99, 67] [c] = some k ∧ ([65, 97, 66, 98, 67, 99] : List Nat)[k]? = some (opp c) := by
    rcases lets_cases h with rfl | rfl | rfl | rfl | rfl | rfl
    · exact ⟨0, by decide +kernel, rfl⟩
    · exact ⟨1, by decide +kernel, rfl⟩
    · exact ⟨2, by decide +kernel, rfl⟩
    · exact ⟨3, by decide +kernel, rfl⟩
    · exact ⟨4, by decide +kernel, rfl⟩
    · exact ⟨5, by decide +kernel, rfl⟩
  obtain ⟨k, h1, h2⟩ := this
  refine ⟨k, ?_, h2⟩
  show (sIdx _ _).map _ = _
  rw [h1]
  rfl
theorem law_opposite_ok (c : Nat) (h : c ∈ LETS) : f__law_opposite [fz (.str [c])] = .ret (fz (.str [opp c])) [fz (.str [c])] := by
  obtain ⟨k, h1, h2⟩ := gOppIx h
  unfold f__law_opposite
  rw [bodyF_app]
  unfold m__law_opposite
  simp [entry, ldM, h1, h2]
def invL (w : List Nat) : List Nat := w.reverse.map opp
theorem opp_lets {c : Nat} (h : c ∈ LETS) : opp c ∈ LETS := by
  rcases lets_cases h with rfl | rfl | rfl | rfl | rfl | rfl <;> decide
theorem opp_ltr {r c : Nat} (hr : r ≤ 3) (h : c ∈ ltr r) : opp c ∈ ltr r := by
  rcases (by omega : r = 0 ∨ r = 1 ∨ r = 2 ∨ r = 3) with rfl | rfl | rfl | rfl <;> simp [ltr, LETS] at h
  · rcases h with rfl | rfl <;> decide
  · rcases h with rfl | rfl | rfl | rfl <;> decide
  · rcases h with rfl | rfl | rfl | rfl | rfl | rfl <;> decide
theorem invL_ltr {r : Nat} {w : List Nat} (hr : r ≤ 3) (h : ∀ c ∈ w, c ∈ ltr r) : ∀ c ∈ invL w, c ∈ ltr r := fun c hc => by
  unfold invL at hc
  rw [List.mem_map] at hc
  obtain ⟨a, ha, rfl⟩ := hc
  exact opp_ltr hr (h a (by simpa using ha))
@[simp] theorem invL_len (w : List Nat) : (invL w).length = w.length := by simp [invL]
theorem law_inverse_ok (w : List Nat) (h : ∀ c ∈ w, c ∈ LETS) (hl : w.length < 10000) : f__law_inverse [fz (.str w)] = .ret (fz (.str (invL w))) [fz (.str w)] := by
  have hl2 : w.length < 100000 := by omega
  have hc : compM [1] (itV (opM gRev [(ldM 0)])) (stD 1) (DV.ret true) e1__law_inverse [some (fz (.str w)), none] = .ok (.lst (w.reverse.map fun c => .str [opp c])) [some (fz (.str w)), none] :=
    comp_map (fun c => .str [c]) _ w.reverse (by simp [ldM, hl2]) rfl (by rw [List.length_reverse]; omega) rfl fun c hc => ⟨_, rfl, by
      have := law_opposite_ok c (h c (by simpa using hc))
      simp [e1__law_inverse, ldM, this, wipeE], rfl⟩
  have hj := gJoin_letters (invL w) (by simpa using hl2)
  rw [show ((invL w).map fun c => D.str [c]) = w.reverse.map fun c => .str [opp c] by unfold invL; rw [List.map_map]; rfl] at hj
  unfold f__law_inverse
  rw [bodyF_app]
  unfold m__law_inverse
  simp [-List.map_reverse, entry, ldM, hc, hj]
theorem small_low {c : Nat} (h : c ∈ LETS) : (c = lowc c) ↔ small c = true := by
  rcases lets_cases h with rfl | rfl | rfl | rfl | rfl | rfl <;> decide
theorem law_returns_ok (rows : List (List Nat)) (r : Nat) (w : List Nat) (A : Act r rows) (hw : ∀ c ∈ w, c ∈ ltr r) : f__law_returns [fz (actD rows), fz (.str w)] = .ret (fz (.bl (retL rows w))) [fz (actD rows), fz (.str w)] := by
  obtain ⟨m, hm1, hm2, h⟩ := A.pts
  obtain ⟨e', h1, h2, x, y, rfl⟩ := for_fold (fun c : Nat => D.str [c]) (imgL rows) (fun s e => s < m ∧ ∃ x y, e = [some (fz (actD rows)), some (fz (.str w)), some (fz (.int (s : Int))), x, y]) (t := stD 3) (b := b1__law_returns) w 0
    [some (fz (actD rows)), some (fz (.str w)), some (fz (.int 0)), none, none] ⟨hm1, none, none, rfl⟩ fun c hc s e ⟨hs, x, y, he⟩ => by
      subst he
      have hk : kOf c < rows.length := by rw [A.len]; exact kOf_lt (hw c hc) A.r3
      have hperm := h _ (List.getElem_mem hk)
      have hL := ltr_sub (hw c hc)
      have hg : rows.getD (kOf c) [] = rows[kOf c] := by rw [List.getD_eq_getElem?_getD, List.getElem?_eq_getElem hk]; rfl
      obtain ⟨q, h1, h2⟩ := perm_get hperm hs
      have ht := gTIx_row _ _ (perm_mem hperm hs)
      unfold rowD at ht
      have hsl := small_low hL
      refine ⟨_, _, rfl, .inl ?_, imgL_lt h A.len A.r3 (hw c hc) hs, some (fz (.str [c])), some (fz (rowD rows[kOf c])), rfl⟩
      unfold b1__law_returns imgL
      rw [hg]
      by_cases hs' : small c = true
      · simp [-List.mem_cons, ldM, actD, gLow hL, gKind hL, hk, hs', rowD, h1, eq_true (hsl.mpr hs')]
      · have hn : ¬ c = lowc c := fun z => hs' (hsl.mp z)
        simp [-List.mem_cons, ldM, actD, gLow hL, gKind hL, hk, hs', rowD, ht, hn]
  unfold f__law_returns
  rw [bodyF_app]
  unfold m__law_returns retL
  have h3 : forM (stD 3) b1__law_returns (w.map fun c => .str [c]) [some (fz (actD rows)), some (fz (.str w)), some (fz (.int 0)), none, none] = _ := h1
  have e : ((w.foldl (imgL rows) 0 : Nat) : Int) = 0 ↔ w.foldl (imgL rows) 0 = 0 := by omega
  by_cases h0 : w.foldl (imgL rows) 0 = 0 <;> simp [entry, ldM, bnd_app, h3, e, h0]
def envSw (s : S3) (r m : Nat) (rows : List (List Nat)) (a b c d : Option O) : DV.Env := [some (stO s), some (fz (.int (r : Int))), some (fz (.int (m : Int))), some (.f (.lst (rows.map rowD))), a, b, c, d]
theorem swap_turn (s : S3) (r m : Nat) (rows : List (List Nat)) (a b c d : Option O) (t : D) (hk : 0 ≤ s.k) (hm : 1 ≤ m) (hm2 : m ≤ 60) (hr : rows.length < 10) (hp : PermsOf m rows) :
    ∃ s' rows' a' b' c' d', b1__law_swap (envSw s r m rows (some (fz t)) b c d) = .ok .nx (envSw s' r m rows' a' b' c' d') ∧ 0 ≤ s'.k ∧ rows'.length = rows.length + 1 ∧ PermsOf m rows' := by
  obtain ⟨i, s1, h1, hk1, hi⟩ := next_nat s m hk (by omega) (by omega)
  obtain ⟨j, s2, h2, hk2, hj⟩ := next_nat s1 m hk1 (by omega) (by omega)
  refine ⟨s2, rows ++ [((List.range m).set i j).set j i], some (fz t), some (.f (.lst ((((List.range m).set i j).set j i).map nD))), some (fz (.int (i : Int))), some (fz (.int (j : Int))), ?_, hk2, by simp, fun row hrow => ?_⟩
  · have hl : rows.length < 100000 := by omega
    have hg := gLRg1_i (n := m) (by omega)
    have hrg : ∀ k : Nat, k < m → (DV.rgV 0 m)[k]? = some (.int (k : Int)) := fun k hk => by simp [DV.rgV, hk]
    have hlen : (DV.rgV 0 m).length = m := by simp [DV.rgV]
    have hix : ixN m (i : Int) = some i := by simp [hi]
    have hjx : ixN m (j : Int) = some j := by simp [hj]
    have hset : ((DV.rgV 0 m).set i (.int (j : Int))).set j (.int (i : Int)) = (((List.range m).set i j).set j i).map nD := by
      rw [show DV.rgV 0 m = (List.range m).map nD by unfold DV.rgV; apply List.map_congr_left; intro a _; simp]
      rw [List.map_set, List.map_set]
    unfold b1__law_swap envSw
    simp [ldM, hg, vws_at, vw, osOf_at, h1, h2, hrg i hi, hrg j hj, stTup, stCons, stSub, stNil, bnd_app, putL, getC, putC, hlen, hix, hjx, hset, isL, gAppend, hl, asgK_at, rowD]
  · rcases List.mem_append.mp hrow with h | h
    · exact hp row h
    · rw [List.mem_singleton.mp h]
      have := List.set_set_perm (as := List.range m) (i := i) (j := j) (by simpa using hi) (by simpa using hj)
      simpa using this
theorem envSw_set (s : S3) (r m : Nat) (rows : List (List Nat)) (a b c d : Option O) (t : D) : stD 4 t (envSw s r m rows a b c d) = some (envSw s r m rows (some (fz t)) b c d) := rfl
theorem law_swap_ok (s : S3) (r : Nat) (hk : 0 ≤ s.k) (hr : 1 ≤ r) (hr3 : r ≤ 3) :
    ∃ rows s', f__law_swap [stO s, fz (.int (r : Int))] = .ret (fz (actD rows)) [stO s', fz (.int (r : Int))] ∧ 0 ≤ s'.k ∧ Act r rows := by
  obtain ⟨n, s1, h1, hk1, hn⟩ := next_n s 4 4 rfl hk (by omega) (by omega)
  obtain ⟨m, hm⟩ : ∃ m, m = 2 + n := ⟨_, rfl⟩
  obtain ⟨e', h2, s2, rows, a, b, c, d, rfl, hk2, h3, h4⟩ := for_inv (t := stD 4) (b := b1__law_swap) (fun k e => ∃ s rows a b c d, e = envSw s r m rows a b c d ∧ 0 ≤ s.k ∧ rows.length = k ∧ PermsOf m rows) (DV.rgV 0 r) 0
    (envSw s1 r m [] none none none none) ⟨s1, [], none, none, none, none, rfl, hk1, rfl, by simp [PermsOf]⟩ (fun j t e hj ⟨s, rows, a, b, c, d, he, hs, hl, hp⟩ => by
      subst he
      have hjr : j < r := by simpa [DV.rgV] using (List.getElem?_eq_some_iff.mp hj).1
      obtain ⟨s', rows', a', b', c', d', h5, h6, h7, h8⟩ := swap_turn s r m rows a b c d t hs (by omega) (by omega) (by omega) hp
      refine ⟨envSw s r m rows (some (fz t)) b c d, envSw s' r m rows' a' b' c' d', envSw_set s r m rows a b c d t, ?_, ?_⟩
      · left
        exact h5
      exact ⟨s', rows', a', b', c', d', rfl, h6, by rw [h7, hl], h8⟩)
  have hl : rows.length = r := by simpa [DV.rgV] using h3
  refine ⟨rows, s2, ?_, hk2, hl, hr, hr3, m, by omega, by omega, h4⟩
  unfold f__law_swap
  rw [bodyF_app]
  unfold m__law_swap
  unfold envSw at h2
  have h2' := h2
  simp only [List.map_nil] at h2'
  rw [show ((m : Nat) : Int) = 2 + (n : Int) by omega] at h2'
  simp [entry, ldM, osOf_at, vws_at, vw, bnd_app, h1, small_nat (show r < 100000 by omega), h2', actD]
end Lib

set_option Elab.async false
set_option linter.all false
set_option maxRecDepth 100000
set_option maxHeartbeats 4000000
/-! What workspaces give. -/
namespace Lib
open L2 DV PySem
inductive Cmd where
  | give (w : List Nat) | bind (rows : List (List Nat)) | drop (n : Nat) | loose (n : Nat)
def kGive : List Nat := [103, 105, 118, 101]
def kBind : List Nat := [98, 105, 110, 100]
def kDrop : List Nat := [100, 114, 111, 112]
def kLoose : List Nat := [108, 111, 111, 115, 101]
def cmdD : Cmd → D
  | .give w => .tup [.str kGive, .str w]
  | .bind rows => .tup [.str kBind, actD rows]
  | .drop n => .tup [.str kDrop, .int (n : Int)]
  | .loose n => .tup [.str kLoose, .int (n : Int)]
def CmdOk (r : Nat) : Cmd → Prop
  | .give w => (∀ c ∈ w, c ∈ ltr r) ∧ w.length ≤ 8
  | .bind rows => Act r rows
  | .drop n => n < 4
  | .loose n => n < 4
structure WS where
  g : List (List Nat)
  b : List (List (List Nat))
def wsD (s : WS) : D := .tup [.tup (s.g.map .str), .tup (s.b.map actD)]
structure WsOk (r : Nat) (s : WS) : Prop where
  g4 : s.g.length ≤ 4
  b3 : s.b.length ≤ 3
  gw : ∀ w ∈ s.g, (∀ c ∈ w, c ∈ ltr r) ∧ w.length ≤ 8
  bw : ∀ a ∈ s.b, Act r a
  rt : ∀ w ∈ s.g, ∀ a ∈ s.b, retL a w = true
def wMany : List Nat := [109, 97, 110, 121]
def wBound : List Nat := [98, 111, 117, 110, 100]
def wWord : List Nat := [119, 111, 114, 100]
def wMissing : List Nat := [109, 105, 115, 115, 105, 110, 103]
/-- why a command is not possible -/
def whyN (s : WS) : Cmd → Option (List Nat)
  | .give w => if 4 ≤ s.g.length then some wMany else if (s.b.all fun a => retL a w) = true then none else some wBound
  | .bind a => if 3 ≤ s.b.length then some wMany else if (s.g.all fun w => retL a w) = true then none else some wWord
  | .drop n => if n < s.g.length then none else some wMissing
  | .loose n => if n < s.b.length then none else some wMissing
def behW (s : WS) : Cmd → WS
  | .give w => ⟨s.g ++ [w], s.b⟩
  | .bind a => ⟨s.g, s.b ++ [a]⟩
  | .drop n => ⟨s.g.take n ++ s.g.drop (n + 1), s.b⟩
  | .loose n => ⟨s.g, s.b.take n ++ s.b.drop (n + 1)⟩
theorem behW_ok {r : Nat} {s : WS} {c : Cmd} (S : WsOk r s) (C : CmdOk r c) (h : whyN s c = none) : WsOk r (behW s c) := by
  cases c with
  | give w =>
    simp only [whyN] at h
    split at h
    · cases h
    · rename_i h1
      split at h
      · rename_i h2
        simp only [List.all_eq_true] at h2
        refine ⟨by simp [behW]; omega, S.b3, fun v hv => ?_, S.bw, fun v hv a ha => ?_⟩
        · rcases List.mem_append.mp hv with hv | hv
          · exact S.gw v hv
          · rw [List.mem_singleton.mp hv]; exact C
        · rcases List.mem_append.mp hv with hv | hv
          · exact S.rt v hv a ha
          · rw [List.mem_singleton.mp hv]; exact h2 a ha
      · cases h
  | bind x =>
    simp only [whyN] at h
    split at h
    · cases h
    · rename_i h1
      split at h
      · rename_i h2
        simp only [List.all_eq_true] at h2
        refine ⟨S.g4, by simp [behW]; omega, S.gw, fun v hv => ?_, fun w hw a ha => ?_⟩
        · rcases List.mem_append.mp hv with hv | hv
          · exact S.bw v hv
          · rw [List.mem_singleton.mp hv]; exact C
        · rcases List.mem_append.mp ha with ha | ha
          · exact S.rt w hw a ha
          · rw [List.mem_singleton.mp ha]; exact h2 w hw
      · cases h
  | drop n =>
    have sub : ∀ x ∈ s.g.take n ++ s.g.drop (n + 1), x ∈ s.g := fun x hx => by
      rcases List.mem_append.mp hx with h | h
      · exact List.mem_of_mem_take h
      · exact List.mem_of_mem_drop h
    exact ⟨by have := S.g4; simp [behW]; omega, S.b3, fun w hw => S.gw w (sub w hw), S.bw, fun w hw => S.rt w (sub w hw)⟩
  | loose n =>
    have sub : ∀ x ∈ s.b.take n ++ s.b.drop (n + 1), x ∈ s.b := fun x hx => by
      rcases List.mem_append.mp hx with h | h
      · exact List.mem_of_mem_take h
      · exact List.mem_of_mem_drop h
    exact ⟨S.g4, by have := S.b3; simp [behW]; omega, S.gw, fun w hw => S.bw w (sub w hw), fun w hw a ha => S.rt w hw a (sub a ha)⟩
/-! ### the laws' commands -/
theorem sl10_s (w : List Nat) (n : Nat) (N : Int) (h : N = n) (hl : w.length < 100000) : gSl10 [.str w, .int N] = some (.d (.str (w.drop n))) := by
  subst h
  unfold gSl10 slD
  simp only [if_pos hl, cut_from]
theorem sl01_s (w : List Nat) (n : Nat) (N : Int) (h : N = n) (hl : w.length < 100000) : gSl01 [.str w, .int N] = some (.d (.str (w.take n))) := by
  subst h
  unfold gSl01 slD
  simp only [if_pos hl, cut_to]
theorem gEq_d1 {d : Nat} : gEq [.int (d : Int), .int 1] = some (.d (.bl (decide (d = 1)))) := by
  rw [gEq_ii]
  have : ((d : Int) = 1) ↔ d = 1 := by omega
  simp [this]
theorem law_command_ok (s : S3) (r : Nat) (st : WS) (hk : 0 ≤ s.k) (hr : 1 ≤ r) (hr3 : r ≤ 3) :
    ∃ c s', f__law_command [stO s, fz (.int (r : Int)), fz (wsD st)] = .ret (fz (cmdD c)) [stO s', fz (.int (r : Int)), fz (wsD st)] ∧ 0 ≤ s'.k ∧ CmdOk r c := by
  obtain ⟨k, s1, h1, hk1, hn⟩ := next_n s 10 10 rfl hk (by omega) (by omega)
  unfold f__law_command
  rw [bodyF_app]
  unfold m__law_command
  by_cases h5 : k < 5
  · have h5' : (k : Int) < 5 := by omega
    obtain ⟨w, s2, h2, hk2, hw1, hw2⟩ := law_word_ok s1 r 5 hk1 hr hr3 (by omega)
    have h2' : f__law_word [stO s1, fz (.int (r : Int)), fz (.int 5)] = _ := h2
    -- the word, with its inverse behind it or not
    obtain ⟨x, s3, h3, hk3, hx⟩ := next_n s2 2 2 rfl hk2 (by omega) (by omega)
    have hwl : w.length < 100000 := by omega
    have hd := sl10_s w 1 1 rfl hwl
    have hi := law_inverse_ok (w.drop 1) (fun c hc => ltr_sub (hw2 c (List.mem_of_mem_drop hc))) (by rw [List.length_drop]; omega)
    have hdl : (w.drop 1).length = w.length - 1 := List.length_drop
    have hlen : w.length + (w.length - 1) < 100000 := by omega
    -- the last draw, from either stream
    have fin : ∀ (v : List Nat) (s4 : S3), v.length ≤ 10 → (∀ c ∈ v, c ∈ ltr r) → 0 ≤ s4.k → ∃ y s5, f__law_next [stO s4, fz (.int 4)] = .ret (fz (.int (y : Nat))) [stO s5, fz (.int 4)] ∧ 0 ≤ s5.k ∧
        CmdOk r (.give ((if y = 1 then v.take 4 ++ v.take 4 else v).take 8)) := fun v s4 hv1 hv2 hk4 => by
      obtain ⟨y, s5, h6, hk5, hy⟩ := next_n s4 4 4 rfl hk4 (by omega) (by omega)
      refine ⟨y, s5, h6, hk5, fun c hc => ?_, by rw [List.length_take]; omega⟩
      have hc := List.mem_of_mem_take hc
      split at hc
      · rcases List.mem_append.mp hc with h | h
        · exact hv2 c (List.mem_of_mem_take h)
        · exact hv2 c (List.mem_of_mem_take h)
      · exact hv2 c hc
    have run : ∀ (v : List Nat), v.length ≤ 10 → v.length < 100000 ∧ (v.take 4).length + (v.take 4).length < 100000 ∧ (v.take 4 ++ v.take 4).length < 100000 := fun v hv => by
      simp only [List.length_append, List.length_take]
      omega
    have h4 : ((4 : Nat) : Int) = 4 := rfl
    cases hb : st.b with
    | nil =>
      obtain ⟨y, s5, h6, hk5, hC⟩ := fin w s2 (by omega) hw2 hk2
      obtain ⟨r1, r2, r3⟩ := run w (by omega)
      refine ⟨_, s5, ?_, hk5, hC⟩
      by_cases hy : y = 1
      · subst hy
        have h6' : f__law_next [stO s2, fz (.int 4)] = .ret (fz (.int 1)) [stO s5, fz (.int 4)] := h6
        simp [-List.length_append, -List.length_take, entry, ldM, osOf_at, vws_at, vw, wsD, hb, stTup, stCons, stNil, stD, h1, h5', h2', h6', sl01_s w 4 4 rfl r1, r2, sl01_s _ 8 8 rfl r3, cmdD, kGive]
      · have hy' : ¬ (y : Int) = 1 := by omega
        simp [entry, ldM, osOf_at, vws_at, vw, wsD, hb, stTup, stCons, stNil, stD, h1, h5', h2', h6, hy, hy', sl01_s w 8 8 rfl r1, cmdD, kGive]
    | cons b0 bs =>
      by_cases hx1 : x = 1
      · subst hx1
        have h3' : f__law_next [stO s2, fz (.int 2)] = .ret (fz (.int 1)) [stO s3, fz (.int 2)] := h3
        have hvl : (w ++ invL (w.drop 1)).length ≤ 10 := by rw [List.length_append, invL_len, hdl]; omega
        obtain ⟨y, s5, h6, hk5, hC⟩ := fin (w ++ invL (w.drop 1)) s3 hvl (fun c hc => by
          rcases List.mem_append.mp hc with h | h
          · exact hw2 c h
          · exact invL_ltr hr3 (fun c hc => hw2 c (List.mem_of_mem_drop hc)) c h) hk3
        obtain ⟨r1, r2, r3⟩ := run _ hvl
        have r0 : w.length + (invL (w.drop 1)).length < 100000 := by rw [invL_len, hdl]; omega
        refine ⟨_, s5, ?_, hk5, hC⟩
        by_cases hy : y = 1
        · subst hy
          have h6' : f__law_next [stO s3, fz (.int 4)] = .ret (fz (.int 1)) [stO s5, fz (.int 4)] := h6
          simp [-List.length_append, -List.length_take, -List.length_drop, -List.drop_one, -invL_len, entry, ldM, osOf_at, vws_at, vw, wsD, hb, stTup, stCons, stNil, stD, h1, h5', h2', h3', hd, hi, r0, h6', sl01_s _ 4 4 rfl r1, r2, sl01_s _ 8 8 rfl r3, cmdD, kGive]
        · have hy' : ¬ (y : Int) = 1 := by omega
          simp [-List.length_append, -List.length_drop, -List.drop_one, -invL_len, entry, ldM, osOf_at, vws_at, vw, wsD, hb, stTup, stCons, stNil, stD, h1, h5', h2', h3', hd, hi, r0, h6, hy, hy', sl01_s _ 8 8 rfl r1, cmdD, kGive]
      · have hx1' : ¬ (x : Int) = 1 := by omega
        obtain ⟨y, s5, h6, hk5, hC⟩ := fin w s3 (by omega) hw2 hk3
        obtain ⟨r1, r2, r3⟩ := run w (by omega)
        refine ⟨_, s5, ?_, hk5, hC⟩
        by_cases hy : y = 1
        · subst hy
          have h6' : f__law_next [stO s3, fz (.int 4)] = .ret (fz (.int 1)) [stO s5, fz (.int 4)] := h6
          simp [-List.length_append, -List.length_take, entry, ldM, osOf_at, vws_at, vw, wsD, hb, stTup, stCons, stNil, stD, h1, h5', h2', h3, hx1', h6', sl01_s w 4 4 rfl r1, r2, sl01_s _ 8 8 rfl r3, cmdD, kGive]
        · have hy' : ¬ (y : Int) = 1 := by omega
          simp [entry, ldM, osOf_at, vws_at, vw, wsD, hb, stTup, stCons, stNil, stD, h1, h5', h2', h3, hx1', h6, hy, hy', sl01_s w 8 8 rfl r1, cmdD, kGive]
  · have h5' : ¬ (k : Int) < 5 := by omega
    by_cases h7 : k < 7
    · have h7' : (k : Int) < 7 := by omega
      obtain ⟨rows, s2, h2, hk2, A⟩ := law_swap_ok s1 r hk1 hr hr3
      exact ⟨.bind rows, s2, by simp [entry, ldM, osOf_at, vws_at, vw, wsD, stTup, stCons, stNil, stD, h1, h5', h7', h2, cmdD, kBind], hk2, A⟩
    · have h7' : ¬ (k : Int) < 7 := by omega
      obtain ⟨n, s2, h2, hk2, hn4⟩ := next_n s1 4 4 rfl hk1 (by omega) (by omega)
      by_cases h9 : k = 9
      · subst h9
        exact ⟨.loose n, s2, by simp [entry, ldM, osOf_at, vws_at, vw, wsD, stTup, stCons, stNil, stD, h1, h2, cmdD, kLoose], hk2, hn4⟩
      · have h9' : ¬ (k : Int) = 9 := by omega
        exact ⟨.drop n, s2, by simp [entry, ldM, osOf_at, vws_at, vw, wsD, stTup, stCons, stNil, stD, h1, h5', h7', h9', h2, cmdD, kDrop], hk2, hn4⟩
def whyD (s : WS) (c : Cmd) : List Nat := (whyN s c).getD []
theorem int_b {b : Bool} : gInt [.bl b] = some (.d (.int (if b then 1 else 0))) := rfl
theorem law_why_ok (r : Nat) (s : WS) (c : Cmd) (S : WsOk r s) (C : CmdOk r c) : f__law_why_not [fz (wsD s), fz (cmdD c)] = .ret (fz (.str (whyD s c))) [fz (wsD s), fz (cmdD c)] := by
  have hg := S.g4
  have hb := S.b3
  unfold f__law_why_not
  rw [bodyF_app]
  unfold m__law_why_not whyD
  cases c with
  | give w =>
    have hc : compM [6] (itV (ldM 3)) (stD 6) (DV.ret true) e1__law_why_not [some (fz (wsD s)), some (fz (cmdD (.give w))), some (fz (.tup (s.g.map .str))), some (fz (.tup (s.b.map actD))), some (fz (.str kGive)), some (fz (.str w)), none, none] = .ok (.lst (s.b.map fun a => .bl (retL a w))) [some (fz (wsD s)), some (fz (cmdD (.give w))), some (fz (.tup (s.g.map .str))), some (fz (.tup (s.b.map actD))), some (fz (.str kGive)), some (fz (.str w)), none, none] :=
      comp_map actD _ s.b (by simp [ldM]) rfl (by omega) rfl fun a ha => ⟨_, rfl, by
        have := law_returns_ok a r w (S.bw a ha) C.1
        simp [e1__law_why_not, ldM, this, wipeE], rfl⟩
    simp only [wsD, cmdD, kGive] at hc ⊢
    by_cases h4 : 4 ≤ s.g.length
    · have h4' : (4 : Int) ≤ s.g.length := by omega
      simp [entry, ldM, stTup, stCons, stNil, stD, whyN, h4, h4', wMany]
    · have h4' : ¬ (4 : Int) ≤ s.g.length := by omega
      cases ha : s.b.all fun a => retL a w with
      | true => simp [entry, ldM, stTup, stCons, stNil, stD, whyN, h4, h4', hc, gAll_map, ha]
      | false => simp [entry, ldM, stTup, stCons, stNil, stD, whyN, h4, h4', hc, gAll_map, ha, wBound]
  | bind w =>
    have hc : compM [7] (itV (ldM 2)) (stD 7) (DV.ret true) e2__law_why_not [some (fz (wsD s)), some (fz (cmdD (.bind w))), some (fz (.tup (s.g.map .str))), some (fz (.tup (s.b.map actD))), some (fz (.str kBind)), some (fz (actD w)), none, none] = .ok (.lst (s.g.map fun a => .bl (retL w a))) [some (fz (wsD s)), some (fz (cmdD (.bind w))), some (fz (.tup (s.g.map .str))), some (fz (.tup (s.b.map actD))), some (fz (.str kBind)), some (fz (actD w)), none, none] :=
      comp_map .str _ s.g (by simp [ldM]) rfl (by omega) rfl fun a ha => ⟨_, rfl, by
        have := law_returns_ok w r a C (S.gw a ha).1
        simp [e2__law_why_not, ldM, this, wipeE], rfl⟩
    simp only [wsD, cmdD, kBind] at hc ⊢
    by_cases h4 : 3 ≤ s.b.length
    · have h4' : (3 : Int) ≤ s.b.length := by omega
      simp [entry, ldM, stTup, stCons, stNil, stD, whyN, h4, h4', wMany]
    · have h4' : ¬ (3 : Int) ≤ s.b.length := by omega
      cases ha : s.g.all fun a => retL w a with
      | true => simp [entry, ldM, stTup, stCons, stNil, stD, whyN, h4, h4', hc, gAll_map, ha]
      | false => simp [entry, ldM, stTup, stCons, stNil, stD, whyN, h4, h4', hc, gAll_map, ha, wWord]
  | drop n =>
    by_cases h : n < s.g.length
    · have h' : (n : Int) < s.g.length := by omega
      simp [entry, ldM, wsD, cmdD, kDrop, stTup, stCons, stNil, stD, whyN, h, h']
    · have h' : ¬ (n : Int) < s.g.length := by omega
      simp [entry, ldM, wsD, cmdD, kDrop, stTup, stCons, stNil, stD, whyN, h, h', wMissing]
  | loose n =>
    by_cases h : n < s.b.length
    · have h' : (n : Int) < s.b.length := by omega
      simp [entry, ldM, wsD, cmdD, kLoose, stTup, stCons, stNil, stD, whyN, h, h']
    · have h' : ¬ (n : Int) < s.b.length := by omega
      simp [entry, ldM, wsD, cmdD, kLoose, stTup, stCons, stNil, stD, whyN, h, h', wMissing]
theorem sl10_t (w : List D) (n : Nat) (N : Int) (h : N = n) : gSl10 [.tup w, .int N] = some (.d (.tup (w.drop n))) := by
  subst h
  unfold gSl10 slD
  simp only [cut_from]
theorem sl01_t (w : List D) (n : Nat) (N : Int) (h : N = n) : gSl01 [.tup w, .int N] = some (.d (.tup (w.take n))) := by
  subst h
  unfold gSl01 slD
  simp only [cut_to]
theorem law_behind_ok (r : Nat) (s : WS) (c : Cmd) (S : WsOk r s) : f__law_behind [fz (wsD s), fz (cmdD c)] = .ret (fz (wsD (behW s c))) [fz (wsD s), fz (cmdD c)] := by
  have hg := S.g4
  have hb := S.b3
  unfold f__law_behind
  rw [bodyF_app]
  unfold m__law_behind
  have h1 : s.g.length + 1 < 100000 := by omega
  have h2 : s.b.length + 1 < 100000 := by omega
  cases c with
  | give w => simp [entry, ldM, wsD, cmdD, kGive, stTup, stCons, stNil, stD, behW, h1]
  | bind w => simp [entry, ldM, wsD, cmdD, kBind, stTup, stCons, stNil, stD, behW, h2]
  | drop n =>
    have e : (n : Int) + 1 = ((n + 1 : Nat) : Int) := by omega
    have h3 : ((s.g.map D.str).take n).length + ((s.g.map D.str).drop (n + 1)).length < 100000 := by simp only [List.length_take, List.length_drop, List.length_map]; omega
    simp [-List.length_take, -List.length_drop, -List.length_map, -List.map_take, -List.map_drop, entry, ldM, wsD, cmdD, kDrop, stTup, stCons, stNil, stD, behW, sl01_t _ n n rfl, sl10_t _ (n + 1) _ e, h3]
    rw [List.map_take, List.map_drop]
  | loose n =>
    have e : (n : Int) + 1 = ((n + 1 : Nat) : Int) := by omega
    have h3 : ((s.b.map actD).take n).length + ((s.b.map actD).drop (n + 1)).length < 100000 := by simp only [List.length_take, List.length_drop, List.length_map]; omega
    simp [-List.length_take, -List.length_drop, -List.length_map, -List.map_take, -List.map_drop, entry, ldM, wsD, cmdD, kLoose, stTup, stCons, stNil, stD, behW, sl01_t _ n n rfl, sl10_t _ (n + 1) _ e, h3]
    rw [List.map_take, List.map_drop]
/-! ### the program's own -/
def eNot (w : List Nat) : Exn := ⟨4, [.str w]⟩
def eBad (w : List Nat) : Exn := ⟨1, [.str w]⟩
def eLarge (w : List Nat) : Exn := ⟨3, [.str w]⟩
theorem without_ok {α : Type} (enc : α → D) (xs : List α) (n : Nat) (hl : xs.length < 1000) : f_without [fz (.tup (xs.map enc)), fz (.int (n : Int))] = if n < xs.length then .ret (fz (.tup ((xs.take n ++ xs.drop (n + 1)).map enc))) [fz (.tup (xs.map enc)), fz (.int (n : Int))] else .exc (eNot wMissing) [fz (.tup (xs.map enc)), fz (.int (n : Int))] := by
  unfold f_without
  rw [bodyF_app]
  unfold m_without
  have e : (n : Int) + 1 = ((n + 1 : Nat) : Int) := by omega
  have h3 : ((xs.map enc).take n).length + ((xs.map enc).drop (n + 1)).length < 100000 := by simp only [List.length_take, List.length_drop, List.length_map]; omega
  by_cases h : n < xs.length
  · have h' : ¬ (xs.length : Int) ≤ n := by omega
    rw [if_pos h]
    simp [-List.length_take, -List.length_drop, -List.map_take, -List.map_drop, entry, ldM, h', sl01_t _ n n rfl, sl10_t _ (n + 1) _ e]
    rw [if_pos h3]
    simp [List.map_take, List.map_drop]
  · have h' : (xs.length : Int) ≤ n := by omega
    rw [if_neg h]
    simp [entry, ldM, h', eNot, wMissing]
theorem with_word_ok (r : Nat) (s : WS) (w : List Nat) (S : WsOk r s) (C : CmdOk r (.give w)) : f_with_word [fz (.tup (s.g.map .str)), fz (.tup (s.b.map actD)), fz (.str w)] =
    (match whyN s (.give w) with | none => .ret (fz (.tup ((s.g ++ [w]).map .str))) [fz (.tup (s.g.map .str)), fz (.tup (s.b.map actD)), fz (.str w)] | some y => .exc (eNot y) [fz (.tup (s.g.map .str)), fz (.tup (s.b.map actD)), fz (.str w)]) := by
  have hg := S.g4
  have hb := S.b3
  have hc : compM [3] (itV (ldM 1)) (stD 3) (DV.ret true) e1_with_word [some (fz (.tup (s.g.map .str))), some (fz (.tup (s.b.map actD))), some (fz (.str w)), none] = .ok (.lst (s.b.map fun a => .bl (retL a w))) [some (fz (.tup (s.g.map .str))), some (fz (.tup (s.b.map actD))), some (fz (.str w)), none] :=
    comp_map actD _ s.b (by simp [ldM]) rfl (by omega) rfl fun a ha => ⟨_, rfl, by
      have := (S.bw a ha).returns w C.1
      simp [e1_with_word, ldM, this, wipeE], rfl⟩
  unfold f_with_word
  rw [bodyF_app]
  unfold m_with_word
  by_cases h4 : 4 ≤ s.g.length
  · have h4' : (4 : Int) ≤ s.g.length := by omega
    simp [entry, ldM, whyN, h4, h4', eNot, wMany]
  · have h4' : ¬ (4 : Int) ≤ s.g.length := by omega
    have h5 : s.g.length + 1 < 100000 := by omega
    cases ha : s.b.all fun a => retL a w with
    | true => simp [entry, ldM, whyN, h4, h4', hc, gAll_map, ha, h5]
    | false => simp [entry, ldM, whyN, h4, h4', hc, gAll_map, ha, eNot, wBound]
theorem with_bound_ok (r : Nat) (s : WS) (w : List (List Nat)) (S : WsOk r s) (C : Act r w) : f_with_bound [fz (.tup (s.g.map .str)), fz (.tup (s.b.map actD)), fz (actD w)] =
    (match whyN s (.bind w) with | none => .ret (fz (.tup ((s.b ++ [w]).map actD))) [fz (.tup (s.g.map .str)), fz (.tup (s.b.map actD)), fz (actD w)] | some y => .exc (eNot y) [fz (.tup (s.g.map .str)), fz (.tup (s.b.map actD)), fz (actD w)]) := by
  have hg := S.g4
  have hb := S.b3
  have hc : compM [3] (itV (ldM 0)) (stD 3) (DV.ret true) e1_with_bound [some (fz (.tup (s.g.map .str))), some (fz (.tup (s.b.map actD))), some (fz (actD w)), none] = .ok (.lst (s.g.map fun a => .bl (retL w a))) [some (fz (.tup (s.g.map .str))), some (fz (.tup (s.b.map actD))), some (fz (actD w)), none] :=
    comp_map .str _ s.g (by simp [ldM]) rfl (by omega) rfl fun a ha => ⟨_, rfl, by
      have := C.returns a (S.gw a ha).1
      simp [e1_with_bound, ldM, this, wipeE], rfl⟩
  unfold f_with_bound
  rw [bodyF_app]
  unfold m_with_bound
  by_cases h4 : 3 ≤ s.b.length
  · have h4' : (3 : Int) ≤ s.b.length := by omega
    simp [entry, ldM, whyN, h4, h4', eNot, wMany]
  · have h4' : ¬ (3 : Int) ≤ s.b.length := by omega
    have h5 : s.b.length + 1 < 100000 := by omega
    cases ha : s.g.all fun a => retL w a with
    | true => simp [entry, ldM, whyN, h4, h4', hc, gAll_map, ha, h5]
    | false => simp [entry, ldM, whyN, h4, h4', hc, gAll_map, ha, eNot, wWord]
theorem behind_ok (r : Nat) (s : WS) (c : Cmd) (S : WsOk r s) (C : CmdOk r c) : f_behind [fz (wsD s), fz (cmdD c)] = (match whyN s c with | none => .ret (fz (wsD (behW s c))) [fz (wsD s), fz (cmdD c)] | some y => .exc (eNot y) [fz (wsD s), fz (cmdD c)]) := by
  have hg := S.g4
  have hb := S.b3
  unfold f_behind
  rw [bodyF_app]
  unfold m_behind
  cases c with
  | give w =>
    have := with_word_ok r s w S C
    cases h : whyN s (.give w) with
    | none => rw [h] at this; simp [-List.map_append, entry, ldM, wsD, cmdD, kGive, stTup, stCons, stNil, stD, behW, this]
    | some y => rw [h] at this; simp [entry, ldM, wsD, cmdD, kGive, stTup, stCons, stNil, stD, this]
  | bind w =>
    have := with_bound_ok r s w S C
    cases h : whyN s (.bind w) with
    | none => rw [h] at this; simp [-List.map_append, entry, ldM, wsD, cmdD, kBind, stTup, stCons, stNil, stD, behW, this]
    | some y => rw [h] at this; simp [entry, ldM, wsD, cmdD, kBind, stTup, stCons, stNil, stD, this]
  | drop n =>
    have := without_ok D.str s.g n (by omega)
    by_cases h : n < s.g.length
    · rw [if_pos h] at this
      simp [-List.map_append, entry, ldM, wsD, cmdD, kDrop, stTup, stCons, stNil, stD, behW, whyN, h, this]
    · rw [if_neg h] at this
      simp [entry, ldM, wsD, cmdD, kDrop, stTup, stCons, stNil, stD, whyN, h, this]
  | loose n =>
    have := without_ok actD s.b n (by omega)
    by_cases h : n < s.b.length
    · rw [if_pos h] at this
      simp [-List.map_append, entry, ldM, wsD, cmdD, kLoose, stTup, stCons, stNil, stD, behW, whyN, h, this]
    · rw [if_neg h] at this
      simp [entry, ldM, wsD, cmdD, kLoose, stTup, stCons, stNil, stD, whyN, h, this]
theorem is_number_ok (n : Nat) (h : n < 4) : f_is_number [fz (.int (n : Int))] = .ret (fz (.bl true)) [fz (.int (n : Int))] := by
  have h1 : (0 : Int) ≤ n := by omega
  have h2 : (n : Int) < 4 := by omega
  unfold f_is_number
  rw [bodyF_app]
  unfold m_is_number
  simp [entry, ldM, h2]
theorem isWd_of {r : Nat} {w : List Nat} (h : ∀ c ∈ w, c ∈ ltr r) : isWd r w = true := by
  simp only [isWd, List.all_eq_true, decide_eq_true_eq]; exact h
theorem gIn_drop : gIn [.str kDrop, .tup [.str kDrop, .str kLoose]] = some (.d (.bl true)) := by
  simp [gIn, inD, D.isFlat, memD, kDrop, kLoose]
theorem gIn_loose : gIn [.str kLoose, .tup [.str kDrop, .str kLoose]] = some (.d (.bl true)) := by
  simp [gIn, inD, D.isFlat, memD, kDrop, kLoose]
theorem is_command_ok (r : Nat) (c : Cmd) (hr : 1 ≤ r) (hr3 : r ≤ 3) (C : CmdOk r c) : f_is_command [fz (cmdD c), fz (.int (r : Int))] = .ret (fz (.bl true)) [fz (cmdD c), fz (.int (r : Int))] := by
  unfold f_is_command
  rw [bodyF_app]
  unfold m_is_command
  have g1 := gIn_drop
  have g2 := gIn_loose
  unfold kDrop kLoose at g1 g2
  cases c with
  | give w =>
    have h1 := is_word_s w r (by have := C.2; omega)
    have h2 : (w.length : Int) ≤ 8 := by have := C.2; omega
    have h3 : w.length < 100000 := by have := C.2; omega
    have h4 : w.length ≤ 24 := by have := C.2; omega
    simp only [hr, hr3, and_self, decide_true, isWd_of C.1, h4, Bool.and_self] at h1
    simp [entry, ldM, cmdD, kGive, h1, h2, h3]
  | bind w =>
    have h1 := is_action_ok r w C
    simp [entry, ldM, cmdD, kBind, h1]
  | drop n =>
    have h1 := is_number_ok n C
    simp [entry, ldM, cmdD, kDrop, g1, h1]
  | loose n =>
    have h1 := is_number_ok n C
    simp [entry, ldM, cmdD, kLoose, g2, h1]
/-- a workspace: its rank, its states (the present one last), its commands -/
def wsO (r : Nat) (sts : List WS) (cs : List Cmd) : O := .ins 12 [.fz (.int (r : Int)), .lst (sts.map wsD), .fz (.tup (cs.map cmdD))]
theorem ws_init_ok (r : Nat) (hr : 1 ≤ r) (hr3 : r ≤ 3) : f_Workspace_init [.ins 12 [], fz (.int (r : Int))] = .ret (fz .non) [wsO r [⟨[], []⟩] [], fz (.int (r : Int))] := by
  have h : 1 ≤ (r : Int) ∧ (r : Int) ≤ 3 := by omega
  unfold f_Workspace_init
  rw [bodyF_app]
  unfold m_Workspace_init
  simp [entry, ldM, is_rank_i, h, setFz_app, appF_app, wsO, wsD]
theorem getLast_map {α β : Type} (f : α → β) (l : List α) (x : α) (h : l.getLast? = some x) : (l.map f).getLast? = some (f x) := by
  rw [List.getLast?_map, h]; rfl
theorem atI_last {α : Type} {l : List α} {x : α} (h : l.getLast? = some x) : atI l (-1) = some x := by
  rw [atI_neg (by rintro rfl; simp at h), h]
theorem ws_act_ok (r : Nat) (sts : List WS) (cs : List Cmd) (s : WS) (c : Cmd) (hr : 1 ≤ r) (hr3 : r ≤ 3) (hl : sts.getLast? = some s) (S : WsOk r s) (C : CmdOk r c) (hn : cs.length < 20) (hm : sts.length < 1000) :
    f_Workspace_act [wsO r sts cs, fz (cmdD c)] = match whyN s c with
      | none => .ret (fz (.int ((cs.length + 1 : Nat) : Int))) [wsO r (sts ++ [behW s c]) (cs ++ [c]), fz (cmdD c)]
      | some y => .exc (eNot y) [wsO r sts cs, fz (cmdD c)] := by
  have h1 := is_command_ok r c hr hr3 C
  have h2 := behind_ok r s c S C
  have h3 : atI (sts.map wsD) (-1) = some (wsD s) := atI_last (getLast_map _ _ _ hl)
  have h4 : ¬ (20 : Int) ≤ cs.length := by omega
  have h5 : cs.length + 1 < 100000 := by omega
  have h6 : sts.length < 100000 := by omega
  unfold f_Workspace_act
  rw [bodyF_app]
  unfold m_Workspace_act
  cases hw : whyN s c with
  | none =>
    rw [hw] at h2
    simp [entry, ldM, wsO, fldK_at, vws_at, vws_fld, vw, h1, h2, h3, h4, h5, h6, getC, putC, isL, gAppend, setFz_app, bnd_app]
  | some y =>
    rw [hw] at h2
    simp [entry, ldM, wsO, fldK_at, vws_at, vws_fld, vw, h1, h2, h3]
theorem ws_family_ok (r : Nat) (sts : List WS) (cs : List Cmd) (s : WS) (hl : sts.getLast? = some s) : f_Workspace_family [wsO r sts cs] = .ret (fz (.tup [.int (r : Int), .tup (s.g.map .str)])) [wsO r sts cs] := by
  have h3 : atI (sts.map wsD) (-1) = some (wsD s) := atI_last (getLast_map _ _ _ hl)
  unfold f_Workspace_family
  rw [bodyF_app]
  unfold m_Workspace_family
  simp [entry, ldM, wsO, fldK_at, vws_at, vws_fld, vw, h3]
  simp [wsD]
theorem ws_bounds_ok (r : Nat) (sts : List WS) (cs : List Cmd) (s : WS) (hl : sts.getLast? = some s) : f_Workspace_bounds [wsO r sts cs] = .ret (fz (.tup (s.b.map actD))) [wsO r sts cs] := by
  have h3 : atI (sts.map wsD) (-1) = some (wsD s) := atI_last (getLast_map _ _ _ hl)
  unfold f_Workspace_bounds
  rw [bodyF_app]
  unfold m_Workspace_bounds
  simp [entry, ldM, wsO, fldK_at, vws_at, vws_fld, vw, h3]
  simp [wsD]
theorem ws_journal_ok (r : Nat) (sts : List WS) (cs : List Cmd) : f_Workspace_journal [wsO r sts cs] = .ret (fz (.tup (cs.map cmdD))) [wsO r sts cs] := by
  unfold f_Workspace_journal
  rw [bodyF_app]
  unfold m_Workspace_journal
  simp [entry, ldM, wsO, fldK_at]
theorem ws_check_ok (r : Nat) (sts : List WS) (cs : List Cmd) (w : List Nat) (hr : 1 ≤ r) (hr3 : r ≤ 3) (hw : ∀ c ∈ w, c ∈ ltr r) (hl : w.length ≤ 24) : f_Workspace_check_word [wsO r sts cs, fz (.str w)] = .ret (fz .non) [wsO r sts cs, fz (.str w)] := by
  have h1 := is_word_s w r (by omega)
  simp only [hr, hr3, and_self, decide_true, isWd_of hw, hl, Bool.and_self] at h1
  unfold f_Workspace_check_word
  rw [bodyF_app]
  unfold m_Workspace_check_word
  simp [entry, ldM, wsO, fldK_at, h1]
/-- the numbers of the bounds in which a word does not return -/
def brokenN (s : WS) (w : List Nat) : List Nat := ((s.b.zipIdx 0).filter fun p => !retL p.1 w).map (·.2)
theorem ws_broken_ok (r : Nat) (sts : List WS) (cs : List Cmd) (s : WS) (w : List Nat) (hr : 1 ≤ r) (hr3 : r ≤ 3) (hls : sts.getLast? = some s) (S : WsOk r s) (hw : ∀ c ∈ w, c ∈ ltr r) (hl : w.length ≤ 24) :
    f_Workspace_broken [wsO r sts cs, fz (.str w)] = .ret (fz (.tup ((brokenN s w).map nD))) [wsO r sts cs, fz (.str w)] := by
  have h1 := ws_check_ok r sts cs w hr hr3 hw hl
  have h2 := ws_bounds_ok r sts cs s hls
  have hb := S.b3
  have hbl : s.b.length < 100000 := by omega
  have hen : enumD 0 (s.b.map actD) = (s.b.zipIdx 0).map fun p => .tup [.int (p.2 : Nat), actD p.1] := enumD_map actD 0 s.b
  have hc : compM [2, 3] (itEnA (methM 12 f_Workspace_bounds (ldM 0) [])) (stTup 2 (stCons (stD 2) (stCons (stD 3) stNil))) q1_Workspace_broken (ldM 2) [some (wsO r sts cs), some (fz (.str w)), none, none] = .ok (.lst (((s.b.zipIdx 0).filter fun p => !retL p.1 w).map fun p => nD p.2)) [some (wsO r sts cs), some (fz (.str w)), none, none] := by
    refine comp_run (fun p : List (List Nat) × Nat => .tup [.int (p.2 : Nat), actD p.1]) (fun p => nD p.2) (fun p => !retL p.1 w) (s.b.zipIdx 0) ?_ rfl (by simp; omega) rfl fun p hp => ?_
    · unfold wsO at h2 ⊢
      simp [ldM, isI_at, osOf_at, h2, hbl, hen]
    · have hpb : p.1 ∈ s.b := List.fst_mem_of_mem_zipIdx hp
      have hret := (S.bw p.1 hpb).returns w hw
      refine ⟨[some (wsO r sts cs), some (fz (.str w)), some (fz (.int (p.2 : Nat))), some (fz (actD p.1))], rfl, ?_, fun _ => ?_, rfl⟩
      · simp [q1_Workspace_broken, ldM, hret]
      · simp [ldM]
  unfold f_Workspace_broken
  rw [bodyF_app]
  unfold m_Workspace_broken
  unfold wsO at h1 h2 hc ⊢
  simp [-List.map_map, entry, ldM, isI_at, osOf_at, h1, hc, bnd_app, brokenN]
  simp [nD]
/-! ### words that are asked -/
def envPr (s : S3) (gs : List (List Nat)) (most : Nat) (w : List Nat) (a b : Option O) : DV.Env := [some (stO s), some (fz (.tup (gs.map .str))), some (fz (.int (most : Int))), some (fz (.str w)), a, b]
theorem product_turn (s : S3) (r : Nat) (gs : List (List Nat)) (most : Nat) (w : List Nat) (a b : Option O) (t : D) (hk : 0 ≤ s.k) (hr3 : r ≤ 3) (hg : ∀ g ∈ gs, (∀ c ∈ g, c ∈ ltr r) ∧ g.length ≤ 8) (hgl : gs.length < 1000) (hm : most < 1000) (hw : w.length ≤ most) (hw2 : ∀ c ∈ w, c ∈ ltr r) :
    ∃ s' w' b', b1__law_product (envPr s gs most w (some (fz t)) b) = .ok .nx (envPr s' gs most w' (some (fz t)) b') ∧ 0 ≤ s'.k ∧ w'.length ≤ most ∧ ∀ c ∈ w', c ∈ ltr r := by
  unfold b1__law_product
  cases gs with
  | nil => exact ⟨s, w, b, by simp [envPr, ldM], hk, hw, hw2⟩
  | cons g0 gr =>
    obtain ⟨i, s1, h1, hk1, hi⟩ := next_n s (gr.length + 1) ((gr.length : Int) + 1) (by omega) hk (by omega) (by simp at hgl; omega)
    obtain ⟨g, hgi⟩ : ∃ g, (g0 :: gr)[i]? = some g := ⟨(g0 :: gr)[i], by simp⟩
    have hgm := hg g (List.mem_of_getElem? hgi)
    have hgD : (D.str g0 :: gr.map D.str)[i]? = some (.str g) := by
      show ((g0 :: gr).map D.str)[i]? = _
      rw [List.getElem?_map, hgi]; rfl
    obtain ⟨x, s2, h2, hk2, hx⟩ := next_n s1 2 2 rfl hk1 (by omega) (by omega)
    have h3 := law_inverse_ok g (fun c hc => ltr_sub (hgm.1 c hc)) (by have := hgm.2; omega)
    have e100 : ∀ v : List Nat, v.length ≤ 8 → w.length + v.length < 100000 := fun v hv => by omega
    have hgrl : gr.length + 1 < 100000 := by simp at hgl; omega
    have main : ∀ v : List Nat, v.length ≤ 8 → (∀ c ∈ v, c ∈ ltr r) → ∃ w', (if (w.length : Int) + v.length ≤ most then w ++ v else w) = w' ∧ w'.length ≤ most ∧ ∀ c ∈ w', c ∈ ltr r := fun v hv hv2 => by
      refine ⟨_, rfl, ?_, ?_⟩
      · split
        · rw [List.length_append]; omega
        · exact hw
      · split
        · intro c hc
          rcases List.mem_append.mp hc with h | h
          · exact hw2 c h
          · exact hv2 c h
        · exact hw2
    by_cases hx1 : x = 1
    · subst hx1
      have h2' : f__law_next [stO s1, fz (.int 2)] = .ret (fz (.int 1)) [stO s2, fz (.int 2)] := h2
      obtain ⟨w', hw', hl', hm'⟩ := main (invL g) (by simpa using hgm.2) (invL_ltr hr3 hgm.1)
      have e1 := e100 (invL g) (by simpa using hgm.2)
      simp only [invL_len] at e1 hw'
      refine ⟨s2, w', some (fz (.str (invL g))), ?_, hk2, hl', hm'⟩
      rw [← hw']
      by_cases hh : (w.length : Int) + g.length ≤ most
      · simp [envPr, ldM, osOf_at, h1, hgD, h2', h3, e1, hh]
      · simp [envPr, ldM, osOf_at, h1, hgD, h2', h3, e1, hh]
    · have hx1' : ¬ (x : Int) = 1 := by omega
      obtain ⟨w', hw', hl', hm'⟩ := main g hgm.2 hgm.1
      have e1 := e100 g hgm.2
      refine ⟨s2, w', some (fz (.str g)), ?_, hk2, hl', hm'⟩
      rw [← hw']
      by_cases hh : (w.length : Int) + g.length ≤ most
      · simp [envPr, ldM, osOf_at, h1, hgD, h2, hx1', e1, hh]
      · simp [envPr, ldM, osOf_at, h1, hgD, h2, hx1', e1, hh]
theorem law_product_ok (s : S3) (r : Nat) (gs : List (List Nat)) (most : Nat) (hk : 0 ≤ s.k) (hr3 : r ≤ 3) (hg : ∀ g ∈ gs, (∀ c ∈ g, c ∈ ltr r) ∧ g.length ≤ 8) (hgl : gs.length < 1000) (hm : most < 1000) :
    ∃ w s', f__law_product [stO s, fz (.tup (gs.map .str)), fz (.int (most : Int))] = .ret (fz (.str w)) [stO s', fz (.tup (gs.map .str)), fz (.int (most : Int))] ∧ 0 ≤ s'.k ∧ w.length ≤ most ∧ ∀ c ∈ w, c ∈ ltr r := by
  obtain ⟨n, s1, h1, hk1, hn⟩ := next_n s 6 6 rfl hk (by omega) (by omega)
  obtain ⟨e', h2, s2, w, a, b, rfl, hk2, h3, h4⟩ := for_inv (t := stD 4) (b := b1__law_product) (fun k e => ∃ s w a b, e = envPr s gs most w a b ∧ 0 ≤ s.k ∧ w.length ≤ most ∧ ∀ c ∈ w, c ∈ ltr r) (DV.rgV 0 n) 0
    (envPr s1 gs most [] none none) ⟨s1, [], none, none, rfl, hk1, by simp, by simp⟩ (fun j t e hj ⟨s, w, a, b, he, hs, hl, hp⟩ => by
      subst he
      obtain ⟨s', w', b', h5, h6, h7, h8⟩ := product_turn s r gs most w a b t hs hr3 hg hgl hm hl hp
      exact ⟨envPr s gs most w (some (fz t)) b, _, rfl, .inl h5, s', w', _, b', rfl, h6, h7, h8⟩)
  refine ⟨w, s2, ?_, hk2, h3, h4⟩
  unfold f__law_product
  rw [bodyF_app]
  unfold m__law_product
  unfold envPr at h2
  simp [entry, ldM, osOf_at, vws_at, vw, bnd_app, h1, small_nat (show n < 100000 by omega), h2]
theorem law_asked_ok (s : S3) (r : Nat) (gs : List (List Nat)) (hk : 0 ≤ s.k) (hr : 1 ≤ r) (hr3 : r ≤ 3) (hg : ∀ g ∈ gs, (∀ c ∈ g, c ∈ ltr r) ∧ g.length ≤ 8) (hgl : gs.length < 1000) :
    ∃ w s', f__law_asked [stO s, fz (.int (r : Int)), fz (.tup (gs.map .str))] = .ret (fz (.str w)) [stO s', fz (.int (r : Int)), fz (.tup (gs.map .str))] ∧ 0 ≤ s'.k ∧ w.length ≤ 12 ∧ ∀ c ∈ w, c ∈ ltr r := by
  obtain ⟨x, s1, h1, hk1, hx⟩ := next_n s 2 2 rfl hk (by omega) (by omega)
  unfold f__law_asked
  rw [bodyF_app]
  unfold m__law_asked
  by_cases hx1 : x = 1
  · subst hx1
    have h1' : f__law_next [stO s, fz (.int 2)] = .ret (fz (.int 1)) [stO s1, fz (.int 2)] := h1
    obtain ⟨w, s2, h2, hk2, hw1, hw2⟩ := law_product_ok s1 r gs 12 hk1 hr3 hg hgl (by omega)
    have h2' : f__law_product [stO s1, fz (.tup (gs.map .str)), fz (.int 12)] = _ := h2
    exact ⟨w, s2, by simp [entry, ldM, osOf_at, h1', h2'], hk2, hw1, hw2⟩
  · have hx1' : ¬ (x : Int) = 1 := by omega
    obtain ⟨w, s2, h2, hk2, hw1, hw2⟩ := law_word_ok s1 r 6 hk1 hr hr3 (by omega)
    have h2' : f__law_word [stO s1, fz (.int (r : Int)), fz (.int 6)] = _ := h2
    exact ⟨w, s2, by simp [entry, ldM, osOf_at, h1, hx1', h2'], hk2, by omega, hw2⟩
end Lib
set_option Elab.async false
set_option linter.all false
set_option maxRecDepth 100000
set_option maxHeartbeats 4000000
/-! _law_equal of a thing and itself, tuples of each kind. -/
namespace Lib
open L2 DV
def pw : Nat → D → Bool
  | _, .non => true
  | _, .bl _ => true
  | _, .int _ => true
  | _, .str _ => true
  | n + 1, .lst xs => decide (xs.length < 100000) && xs.all (pw n)
  | n + 1, .tup xs => decide (xs.length < 100000) && xs.all (pw n)
  | n + 1, .wtup xs => decide (xs.length < 100000) && xs.all (pw n)
  | _, _ => false
theorem equal_go2 {xs : List D} {n : Nat} {d : D} (hd : d = .lst xs ∨ d = .tup xs ∨ d = .wtup xs) (hl : xs.length < 100000) (ih : ∀ x ∈ xs, f__law_equal n [.f (.fz x), .f (.fz x)] = .ret (.f (.fz (.bl true))) [.f (.fz x), .f (.fz x)]) :
    compM [2] (itR1 (opM gLen [(ldM 1)])) (stD 2) (ret true) (callM (f__law_equal n) [(false, (opM gIx [(ldM 0), (ldM 2)])), (false, (opM gIx [(ldM 1), (ldM 2)]))]) [some (.f (.fz d)), some (.f (.fz d)), none] = .ok (.lst (List.replicate xs.length (.bl true))) [some (.f (.fz d)), some (.f (.fz d)), none] := by
  have e : (DV.rgV 0 xs.length).map (fun _ => D.bl true) = List.replicate xs.length (.bl true) := by
    unfold DV.rgV
    rw [List.map_map]
    apply List.ext_getElem <;> simp
  rw [← e]
  refine comp_pure ?_ rfl (by simp [DV.rgV]; omega) fun y hy => ?_
  · rcases hd with rfl | rfl | rfl <;> simp [ldM, small_nat hl]
  · unfold DV.rgV at hy
    rw [List.mem_map] at hy
    obtain ⟨j, hj, rfl⟩ := hy
    have hj : j < xs.length := List.mem_range.mp hj
    have := ih xs[j] (List.getElem_mem hj)
    rcases hd with rfl | rfl | rfl <;> simp [ldM, hj, this]
theorem equal_refl2 : ∀ (n : Nat) (d : D), pw n d = true → f__law_equal (n + 1) [.f (.fz d), .f (.fz d)] = .ret (.f (.fz (.bl true))) [.f (.fz d), .f (.fz d)] := by
  intro n d h
  show bodyF 3 [] (m__law_equal (f__law_equal n)) _ = _
  rw [bodyF_app]
  unfold m__law_equal
  cases d with
  | non => simp [entry, ldM]
  | bl b => simp [entry, ldM]
  | int i => simp [entry, ldM, is_integer_i]
  | str s => simp [entry, ldM]
  | lst xs =>
    cases n with
    | zero => simp [pw] at h
    | succ n =>
      simp only [pw, Bool.and_eq_true, decide_eq_true_eq, List.all_eq_true] at h
      have := equal_go2 (n := n + 1) (.inl rfl) h.1 fun x hx => equal_refl2 n x (h.2 x hx)
      simp [entry, ldM, this, all_bl]
  | tup xs =>
    cases n with
    | zero => simp [pw] at h
    | succ n =>
      simp only [pw, Bool.and_eq_true, decide_eq_true_eq, List.all_eq_true] at h
      have := equal_go2 (n := n + 1) (.inr (.inl rfl)) h.1 fun x hx => equal_refl2 n x (h.2 x hx)
      simp [entry, ldM, this, all_bl]
  | wtup xs =>
    cases n with
    | zero => simp [pw] at h
    | succ n =>
      simp only [pw, Bool.and_eq_true, decide_eq_true_eq, List.all_eq_true] at h
      have := equal_go2 (n := n + 1) (.inr (.inr rfl)) h.1 fun x hx => equal_refl2 n x (h.2 x hx)
      simp [entry, ldM, this, all_bl]
  | dic kv => cases n <;> simp [pw] at h
  | scr ns => cases n <;> simp [pw] at h
/-- deep enough -/
theorem equal6 (d : D) (h : pw 5 d = true) : f__law_equal 6 [fz d, fz d] = .ret (fz (.bl true)) [fz d, fz d] := equal_refl2 5 d h
end Lib

set_option Elab.async false
set_option linter.all false
set_option maxRecDepth 100000
set_option maxHeartbeats 4000000
/-! K88: why the law holds. -/
namespace K88
open L2 DV Lib PySem
def notD (y : List Nat) : D := .tup [.str [110, 111, 116], .str y]
def toldD (s : WS) (cs : List Cmd) (c : Cmd) : D := match whyN s c with
  | none => .int ((cs.length + 1 : Nat) : Int)
  | some y => notD y
theorem told_ok (r : Nat) (sts : List WS) (cs : List Cmd) (s : WS) (c : Cmd) (hr : 1 ≤ r) (hr3 : r ≤ 3) (hl : sts.getLast? = some s) (S : WsOk r s) (C : CmdOk r c) (hn : cs.length < 20) (hm : sts.length < 1000) :
    f__law_told [wsO r sts cs, fz (cmdD c)] = .ret (fz (toldD s cs c)) [match whyN s c with | none => wsO r (sts ++ [behW s c]) (cs ++ [c]) | some _ => wsO r sts cs, fz (cmdD c)] := by
  have h := ws_act_ok r sts cs s c hr hr3 hl S C hn hm
  unfold f__law_told
  rw [bodyF_app]
  unfold m__law_told toldD
  unfold wsO at h ⊢
  cases hw : whyN s c with
  | none =>
    rw [hw] at h
    simp [entry, ldM, isI_at, osOf_at, h]
  | some y =>
    rw [hw] at h
    simp [entry, ldM, isI_at, osOf_at, h, handle, eNot, tupX, allX, fldX, notD]
theorem zip_filter {α : Type} (q : α → Bool) (d : α) : ∀ (l : List α) (k : Nat), ((l.zipIdx k).filter fun p => q p.1).map (·.2) = ((List.range l.length).filter fun i => q (l.getD i d)).map (· + k)
  | [], k => rfl
  | a :: l, k => by
    have ih := zip_filter q d l (k + 1)
    rw [List.zipIdx_cons, List.length_cons, List.range_succ_eq_map, List.filter_cons, List.filter_cons]
    have e : ((List.map Nat.succ (List.range l.length)).filter fun i => q ((a :: l).getD i d)).map (· + k) = ((List.range l.length).filter fun i => q (l.getD i d)).map (· + (k + 1)) := by
      rw [List.filter_map, List.map_map]
      have : ((fun i => q ((a :: l).getD i d)) ∘ Nat.succ) = fun i => q (l.getD i d) := by funext i; simp
      rw [this]
      apply List.map_congr_left
      intro i _
      simp only [Function.comp]
      omega
    have e0 : (a :: l).getD 0 d = a := rfl
    rw [e0]
    cases q a with
    | true => simp only [if_true, List.map_cons, ih, e]; simp
    | false => simp only [Bool.false_eq_true, if_false, ih, e]
theorem broken_range (s : WS) (w : List Nat) : brokenN s w = (List.range s.b.length).filter fun i => !retL (s.b.getD i []) w := by
  unfold brokenN
  rw [zip_filter (fun a => !retL a w) [] s.b 0]
  simp
theorem pw_act {r : Nat} {rows : List (List Nat)} (A : Act r rows) (n : Nat) : pw (n + 2) (actD rows) = true := by
  obtain ⟨m, h1, h2, h3⟩ := A.pts
  have hl := A.len
  have hr := A.r3
  unfold actD pw
  simp only [Bool.and_eq_true, decide_eq_true_eq, List.length_map, List.all_map, List.all_eq_true, Function.comp]
  refine ⟨by omega, fun row hrow => ?_⟩
  unfold rowD pw
  have := perm_len (h3 row hrow)
  simp only [Bool.and_eq_true, decide_eq_true_eq, List.length_map, List.all_map, List.all_eq_true, Function.comp]
  exact ⟨by omega, fun x _ => by cases n <;> rfl⟩
theorem pw_str (n : Nat) (w : List Nat) : pw n (.str w) = true := by cases n <;> rfl
theorem pw_int (n : Nat) (i : Int) : pw n (.int i) = true := by cases n <;> rfl
theorem pw_tup {n : Nat} {xs : List D} (h : xs.length < 100000) (h2 : ∀ x ∈ xs, pw n x = true) : pw (n + 1) (.tup xs) = true := by
  unfold pw
  simp only [Bool.and_eq_true, decide_eq_true_eq, List.all_eq_true]
  exact ⟨h, h2⟩
theorem pw_lst {n : Nat} {xs : List D} (h : xs.length < 100000) (h2 : ∀ x ∈ xs, pw n x = true) : pw (n + 1) (.lst xs) = true := by
  unfold pw
  simp only [Bool.and_eq_true, decide_eq_true_eq, List.all_eq_true]
  exact ⟨h, h2⟩
theorem pw_map {α : Type} {n : Nat} {enc : α → D} {xs : List α} (h : xs.length < 100000) (h2 : ∀ x ∈ xs, pw n (enc x) = true) : pw (n + 1) (.tup (xs.map enc)) = true :=
  pw_tup (by simpa using h) fun x hx => by
    rw [List.mem_map] at hx
    obtain ⟨a, ha, rfl⟩ := hx
    exact h2 a ha
theorem pw_cmd {r : Nat} {c : Cmd} (C : CmdOk r c) (n : Nat) : pw (n + 3) (cmdD c) = true := by
  cases c with
  | give w => exact pw_tup (by simp) (by simp [pw_str])
  | bind a => exact pw_tup (by simp) (by simp [pw_str, pw_act C])
  | drop k => exact pw_tup (by simp) (by simp [pw_str, pw_int])
  | loose k => exact pw_tup (by simp) (by simp [pw_str, pw_int])
def shownD (r : Nat) (s : WS) (cs : List Cmd) : D := .lst [.tup [.int (r : Int), .tup (s.g.map .str)], .tup (s.b.map actD), .tup (cs.map cmdD)]
theorem pw_shown (r : Nat) (s : WS) (cs : List Cmd) (S : WsOk r s) (hc : ∀ c ∈ cs, CmdOk r c) (hl : cs.length < 1000) : pw 5 (shownD r s cs) = true := by
  have := S.g4
  have := S.b3
  refine pw_lst (by simp) fun x hx => ?_
  simp only [List.mem_cons, List.not_mem_nil, or_false] at hx
  rcases hx with rfl | rfl | rfl
  · refine pw_tup (by simp) fun x hx => ?_
    simp only [List.mem_cons, List.not_mem_nil, or_false] at hx
    rcases hx with rfl | rfl
    · rfl
    · exact pw_map (by omega) fun w _ => pw_str _ w
  · exact pw_map (by omega) fun a ha => pw_act (S.bw a ha) 1
  · exact pw_map (by omega) fun a ha => pw_cmd (hc a ha) 0
/-! ### one turn -/
def envL (sc : D) (s : S3) (r : Nat) (sts : List WS) (st : WS) (cs : List Cmd) (a b c d : Option O) : DV.Env :=
  [some (fz sc), some (stO s), some (fz (.int (r : Int))), some (wsO r sts cs), some (fz (wsD st)), some (fz (.tup (cs.map cmdD))), a, b, c, d, none]
def tail1 : M Fl :=
  (seqM (ifM (notM (tsM (callM (f__law_equal 6) [(false, (lstM [(methM 12 f_Workspace_family (ldM 3) []), (methM 12 f_Workspace_bounds (ldM 3) []), (methM 12 f_Workspace_journal (ldM 3) [])])), (false, (lstM [(tupM [(ldM 2), (opM gIx [(ldM 4), (ret (.d (.int 0)))])]), (opM gIx [(ldM 4), (ret (.d (.int 1)))]), (ldM 5)]))]))) (retM (ret (.d (.bl false)))) (ret .nx))
  (seqM (asgM 9 (callM f__law_asked [(true, (ldM 1)), (false, (ldM 2)), (false, (opM gIx [(ldM 4), (ret (.d (.int 0)))]))]))
  (ifM (notM (tsM (callM (f__law_equal 6) [(false, (methM 12 f_Workspace_broken (ldM 3) [(false, (ldM 9))])), (false, (opM gTuple [(compM [10] (itR1 (opM gLen [(opM gIx [(ldM 4), (ret (.d (.int 1)))])])) (stD 10) q1_law (ldM 10))]))]))) (retM (ret (.d (.bl false)))) (ret .nx))))
theorem b1_split : b1_law =
  (seqM (asgM 7 (callM f__law_command [(true, (ldM 1)), (false, (ldM 2)), (false, (ldM 4))]))
  (seqM (asgM 8 (callM f__law_why_not [(false, (ldM 4)), (false, (ldM 7))]))
  (seqM (ifM (tsM (opM gEq [(ldM 8), (ret (.d (.str [])))])) (seqM (asgM 4 (callM f__law_behind [(false, (ldM 4)), (false, (ldM 7))]))
  (seqM (asgM 5 (opM gAdd [(ldM 5), (tupM [(ldM 7)])]))
  (asgM 8 (opM gLen [(ldM 5)])))) (asgM 8 (tupM [(ret (.d (.str [110, 111, 116]))), (ldM 8)])))
  (seqM (ifM (notM (tsM (callM (f__law_equal 6) [(false, (callM f__law_told [(true, (ldM 3)), (false, (ldM 7))])), (false, (ldM 8))]))) (retM (ret (.d (.bl false)))) (ret .nx))
  tail1)))) := rfl
theorem ws_ix0 (st : WS) : gIx [wsD st, .int 0] = some (.d (.tup (st.g.map .str))) := by simp [wsD]
theorem ws_ix1 (st : WS) : gIx [wsD st, .int 1] = some (.d (.tup (st.b.map actD))) := by simp [wsD]
theorem tail_ok (sc : D) (s : S3) (r : Nat) (sts : List WS) (st : WS) (cs : List Cmd) (a b c d : Option O) (hk : 0 ≤ s.k) (hr : 1 ≤ r) (hr3 : r ≤ 3) (hl : sts.getLast? = some st) (S : WsOk r st) (hc : ∀ c ∈ cs, CmdOk r c) (hn : cs.length < 20) :
    ∃ s' x, tail1 (envL sc s r sts st cs a b c d) = .ok .nx (envL sc s' r sts st cs a b c (some (fz x))) ∧ 0 ≤ s'.k := by
  have h1 := ws_family_ok r sts cs st hl
  have h2 := ws_bounds_ok r sts cs st hl
  have h3 := ws_journal_ok r sts cs
  have h4 := equal6 _ (pw_shown r st cs S hc (by omega))
  obtain ⟨w, s1, h5, hk1, hw1, hw2⟩ := law_asked_ok s r st.g hk hr hr3 S.gw (by have := S.g4; omega)
  have h6 := ws_broken_ok r sts cs st w hr hr3 hl S hw2 (by omega)
  have hb := S.b3
  have h7 : f__law_equal 6 [fz (.tup ((brokenN st w).map nD)), fz (.tup ((brokenN st w).map nD))] = .ret (fz (.bl true)) [fz (.tup ((brokenN st w).map nD)), fz (.tup ((brokenN st w).map nD))] := by
    refine equal6 _ (pw_map ?_ fun x _ => pw_int _ _)
    rw [broken_range]
    have := List.length_filter_le (fun i => !retL (st.b.getD i []) w) (List.range st.b.length)
    rw [List.length_range] at this
    omega
  have hC : compM [10] (itR1 (opM gLen [(opM gIx [(ldM 4), (DV.ret (.d (.int 1)))])])) (stD 10) q1_law (ldM 10) (envL sc s1 r sts st cs a b c (some (fz (.str w)))) = .ok (.lst ((brokenN st w).map nD)) (envL sc s1 r sts st cs a b c (some (fz (.str w)))) := by
    rw [broken_range]
    refine comp_run nD nD (fun i => !retL (st.b.getD i []) w) (List.range st.b.length) ?_ rfl (by rw [List.length_range]; omega) rfl fun i hi => ?_
    · have e : DV.rgV 0 st.b.length = (List.range st.b.length).map nD := by unfold DV.rgV; apply List.map_congr_left; intro a _; simp
      simp [envL, ldM, wsD, small_nat (show st.b.length < 100000 by omega), e]
    · have hi : i < st.b.length := List.mem_range.mp hi
      have hret := law_returns_ok (st.b[i]) r w (S.bw _ (List.getElem_mem hi)) hw2
      have hg : st.b.getD i [] = st.b[i] := by rw [List.getD_eq_getElem?_getD, List.getElem?_eq_getElem hi]; rfl
      refine ⟨_, rfl, ?_, fun _ => ?_, rfl⟩
      · simp [q1_law, envL, ldM, wsD, wipeE, hi, hret]
      · simp [envL, ldM, wipeE]
  refine ⟨s1, .str w, ?_, hk1⟩
  unfold shownD at h4
  unfold tail1
  unfold envL at hC ⊢
  unfold wsO at h1 h2 h3 h6 hC ⊢
  simp [ldM, ws_ix0, ws_ix1, isI_at, osOf_at, h1, h2, h3, h4, h5, h6, h7, hC]
theorem turn_ok (sc : D) (s : S3) (r : Nat) (sts : List WS) (st : WS) (cs : List Cmd) (b c d : Option O) (t : D) (hk : 0 ≤ s.k) (hr : 1 ≤ r) (hr3 : r ≤ 3) (hl : sts.getLast? = some st) (S : WsOk r st) (hc : ∀ c ∈ cs, CmdOk r c) (hn : cs.length < 15) (hm : sts.length = cs.length + 1) :
    ∃ s' sts' st' cs' b' c' d', b1_law (envL sc s r sts st cs (some (fz t)) b c d) = .ok .nx (envL sc s' r sts' st' cs' (some (fz t)) b' c' (some (fz d'))) ∧ 0 ≤ s'.k ∧ sts'.getLast? = some st' ∧ WsOk r st' ∧ (∀ c ∈ cs', CmdOk r c) ∧ cs'.length ≤ cs.length + 1 ∧ sts'.length = cs'.length + 1 := by
  obtain ⟨cm, s1, h1, hk1, C⟩ := law_command_ok s r st hk hr hr3
  have h2 := law_why_ok r st cm S C
  have h3 := told_ok r sts cs st cm hr hr3 hl S C (by omega) (by omega)
  rw [b1_split]
  unfold toldD at h3
  unfold whyD at h2
  cases hw : whyN st cm with
  | none =>
    rw [hw] at h2 h3
    have h4 := law_behind_ok r st cm S
    have h5 := behW_ok S C hw
    have h6 : cs.length + 1 < 100000 := by omega
    have h7 := equal6 (.int ((cs.length + 1 : Nat) : Int)) (pw_int _ _)
    have hl2 : (sts ++ [behW st cm]).getLast? = some (behW st cm) := by simp
    have hc2 : ∀ c ∈ cs ++ [cm], CmdOk r c := fun c hcm => by
      rcases List.mem_append.mp hcm with h | h
      · exact hc c h
      · rw [List.mem_singleton.mp h]; exact C
    obtain ⟨s2, d2, h8, hk2⟩ := tail_ok sc s1 r (sts ++ [behW st cm]) (behW st cm) (cs ++ [cm]) (some (fz t)) (some (fz (cmdD cm))) (some (fz (.int ((cs.length + 1 : Nat) : Int)))) d hk1 hr hr3 hl2 h5 hc2 (by simp; omega)
    refine ⟨s2, sts ++ [behW st cm], behW st cm, cs ++ [cm], some (fz (cmdD cm)), some (fz (.int ((cs.length + 1 : Nat) : Int))), d2, ?_, hk2, hl2, h5, hc2, by simp, by simp; omega⟩
    unfold envL at h8 ⊢
    unfold wsO at h3 h8 ⊢
    simp only [Option.getD_none, List.map_append, List.map_cons, List.map_nil, Int.natCast_add, Int.natCast_one] at h2 h3 h7 h8
    simp [ldM, osOf_at, h1, h2, h3, h4, h6, h7]
    exact h8
  | some y =>
    rw [hw] at h2 h3
    have h7 := equal6 (notD y) (pw_tup (by simp) (by simp [pw_str]))
    obtain ⟨s2, d2, h8, hk2⟩ := tail_ok sc s1 r sts st cs (some (fz t)) (some (fz (cmdD cm))) (some (fz (notD y))) d hk1 hr hr3 hl S hc (by omega)
    refine ⟨s2, sts, st, cs, some (fz (cmdD cm)), some (fz (notD y)), d2, ?_, hk2, hl, S, hc, by omega, hm⟩
    have hy : y ≠ [] := by
      rintro rfl
      cases cm <;> simp only [whyN] at hw <;> (repeat' split at hw) <;> simp [Lib.wMany, wBound, wWord, wMissing] at hw
    unfold envL at h8 ⊢
    unfold wsO at h3 h8 ⊢
    simp only [Option.getD_some] at h2
    unfold notD at h3 h7 h8
    simp [ldM, osOf_at, h1, h2, h3, h7, hy, notD]
    exact h8
theorem brokenN_nil {r : Nat} {s : WS} (S : WsOk r s) {w : List Nat} (hw : w ∈ s.g) : brokenN s w = [] := by
  rw [broken_range, List.filter_eq_nil_iff]
  intro i hi
  have hi : i < s.b.length := List.mem_range.mp hi
  have hg : s.b.getD i [] = s.b[i] := by rw [List.getD_eq_getElem?_getD, List.getElem?_eq_getElem hi]; rfl
  simp only [hg, S.rt w hw _ (List.getElem_mem hi), Bool.not_true, Bool.false_eq_true, not_false_eq_true]
theorem law_true (ns : List Int) (hns : ns.length ≤ 63) : ∃ outs, f_law [.f (.fz (.scr ns))] = .ret (.f (.fz (.bl true))) outs := by
  obtain ⟨n0, s1, h1, hk1, hn0⟩ := next_n ⟨ns, 0, 0⟩ 3 3 rfl (by show (0 : Int) ≤ 0; omega) (by omega) (by omega)
  obtain ⟨r, hr⟩ : ∃ r, r = 1 + n0 := ⟨_, rfl⟩
  obtain ⟨n, s2, h2, hk2, hn⟩ := next_n s1 13 13 rfl hk1 (by omega) (by omega)
  have h3 := ws_init_ok r (by omega) (by omega)
  obtain ⟨e', h4, s3, sts, st, cs, a, b, c, d, rfl, hd, hk3, hl, S, hc, hn2, hm⟩ := for_inv (t := stD 6) (b := b1_law) (fun k e => ∃ s sts st cs a b c d, e = envL (.scr ns) s r sts st cs a b c d ∧ (d = none ∨ ∃ x, d = some (fz x)) ∧ 0 ≤ s.k ∧ sts.getLast? = some st ∧ WsOk r st ∧ (∀ c ∈ cs, CmdOk r c) ∧ cs.length ≤ k ∧ sts.length = cs.length + 1) (DV.rgV 0 n) 0
    (envL (.scr ns) s2 r [⟨[], []⟩] ⟨[], []⟩ [] none none none none) ⟨s2, _, _, _, none, none, none, none, rfl, .inl rfl, hk2, rfl, ⟨by simp, by simp, by simp, by simp, by simp⟩, by simp, by simp, rfl⟩
    (fun j t e hj ⟨s, sts, st, cs, a, b, c, d, he, hd, hs, hl, S, hc, hcl, hm⟩ => by
      subst he
      have hjr : j < n := by simpa [DV.rgV] using (List.getElem?_eq_some_iff.mp hj).1
      obtain ⟨s', sts', st', cs', b', c', d', h5, h6, h7, h8, h9, h10, h11⟩ := turn_ok (.scr ns) s r sts st cs b c d t hs (by omega) (by omega) hl S hc (by omega) hm
      exact ⟨envL (.scr ns) s r sts st cs (some (fz t)) b c d, _, rfl, .inl h5, s', sts', st', cs', _, b', c', some (fz d'), rfl, .inr ⟨_, rfl⟩, h6, h7, h8, h9, by omega, h11⟩)
  have hnl : cs.length ≤ n := by simpa [DV.rgV] using hn2
  have hgl := S.g4
  have hC : compM [9] (itV (opM gIx [(ldM 4), (DV.ret (.d (.int 0)))])) (stD 9) (DV.ret true) e1_law (envL (.scr ns) s3 r sts st cs a b c d) = .ok (.lst (st.g.map fun _ => .bl true)) (envL (.scr ns) s3 r sts st cs a b c d) := by
    refine comp_map .str _ st.g ?_ ?_ (by omega) ?_ fun w hw => ?_
    · simp [envL, ldM, ws_ix0]
    · rcases hd with rfl | ⟨x, rfl⟩ <;> rfl
    · rcases hd with rfl | ⟨x, rfl⟩ <;> rfl
    · have hb := ws_broken_ok r sts cs st w (by omega) (by omega) hl S (S.gw w hw).1 (by have := (S.gw w hw).2; omega)
      rw [brokenN_nil S hw] at hb
      have hq : gEq [.tup [], .tup []] = some (.d (.bl true)) := by rw [gEq_ok rfl rfl]; rfl
      refine ⟨_, rfl, ?_, ?_⟩
      · unfold wsO at hb
        simp only [List.map_nil] at hb
        simp [e1_law, envL, ldM, wsO, wipeE, isI_at, osOf_at, hb, hq]
      · rfl
  have ha : gAll [.lst (st.g.map fun _ => .bl true)] = some (.d (.bl true)) := by rw [gAll_map (fun _ => true)]; simp
  refine ⟨[fz (.scr ns)], ?_⟩
  unfold f_law
  rw [bodyF_app]
  unfold m_law
  have hS := stream_of ns
  have hr' : (r : Int) = 1 + n0 := by omega
  unfold envL at h4 hC
  unfold wsO at h3 h4 hC
  simp only [List.map_nil, List.map_cons] at h3 h4
  rw [hr'] at h3 h4 hC
  have hw0 : wsD ⟨[], []⟩ = .tup [.tup [], .tup []] := rfl
  rw [hw0] at h3 h4
  simp [entry, ldM, osOf_at, vws_at, vw, hS, h1, h2, h3, makeK_app, small_nat (show n < 100000 by omega), bnd_app, h4, hC, ha]
end K88

set_option Elab.async false
set_option linter.all false
set_option maxRecDepth 100000
set_option maxHeartbeats 4000000
namespace K88
open PySem L2 PySem.Spec PyProof.Rows DV
theorem all_mk {P : Program} {w : World} {K : PySem.W.Frag} {h : Heap} {mg : Str → Option Value} {fa : Addr} (X : K.In h) (Gn : h.Ns mainGlobals mg) (hfa : mg "law" = some (.ref fa))
    {C4 : Addr}
    {f0 : Addr} {od0 an0 : Option Addr} {sl0 : Array (Option Value)} {oc0 kV0 dc0 pm0 cd0 ct0 : Value}
    {f1 : Addr} {od1 an1 : Option Addr} {sl1 : Array (Option Value)} {oc1 kV1 dc1 pm1 cd1 ct1 : Value}
    {f2 : Addr} {od2 an2 : Option Addr} {sl2 : Array (Option Value)} {oc2 kV2 dc2 pm2 cd2 ct2 : Value}
    {f3 : Addr} {od3 an3 : Option Addr} {sl3 : Array (Option Value)} {oc3 kV3 dc3 pm3 cd3 ct3 : Value}
    {f4 : Addr} {od4 an4 : Option Addr} {sl4 : Array (Option Value)} {oc4 kV4 dc4 pm4 cd4 ct4 : Value}
    {f5 : Addr} {od5 an5 : Option Addr} {sl5 : Array (Option Value)} {oc5 kV5 dc5 pm5 cd5 ct5 : Value}
    {f6 : Addr} {od6 an6 : Option Addr} {sl6 : Array (Option Value)} {oc6 kV6 dc6 pm6 cd6 ct6 : Value}
    {f7 : Addr} {od7 an7 : Option Addr} {sl7 : Array (Option Value)} {oc7 kV7 dc7 pm7 cd7 ct7 : Value}
    {f8 : Addr} {od8 an8 : Option Addr} {sl8 : Array (Option Value)} {oc8 kV8 dc8 pm8 cd8 ct8 : Value}
    {f9 : Addr} {od9 an9 : Option Addr} {sl9 : Array (Option Value)} {oc9 kV9 dc9 pm9 cd9 ct9 : Value}
    {f10 : Addr} {od10 an10 : Option Addr} {sl10 : Array (Option Value)} {oc10 kV10 dc10 pm10 cd10 ct10 : Value}
    {f11 : Addr} {od11 an11 : Option Addr} {sl11 : Array (Option Value)} {oc11 kV11 dc11 pm11 cd11 ct11 : Value}
    {f12 : Addr} {od12 an12 : Option Addr} {sl12 : Array (Option Value)} {oc12 kV12 dc12 pm12 cd12 ct12 : Value}
    {f13 : Addr} {od13 an13 : Option Addr} {sl13 : Array (Option Value)} {oc13 kV13 dc13 pm13 cd13 ct13 : Value}
    {f14 : Addr} {od14 an14 : Option Addr} {sl14 : Array (Option Value)} {oc14 kV14 dc14 pm14 cd14 ct14 : Value}
    {f15 : Addr} {od15 an15 : Option Addr} {sl15 : Array (Option Value)} {oc15 kV15 dc15 pm15 cd15 ct15 : Value}
    {f16 : Addr} {od16 an16 : Option Addr} {sl16 : Array (Option Value)} {oc16 kV16 dc16 pm16 cd16 ct16 : Value}
    {f17 : Addr} {od17 an17 : Option Addr} {sl17 : Array (Option Value)} {oc17 kV17 dc17 pm17 cd17 ct17 : Value}
    {f18 : Addr} {od18 an18 : Option Addr} {sl18 : Array (Option Value)} {oc18 kV18 dc18 pm18 cd18 ct18 : Value}
    {f19 : Addr} {od19 an19 : Option Addr} {sl19 : Array (Option Value)} {oc19 kV19 dc19 pm19 cd19 ct19 : Value}
    {f20 : Addr} {od20 an20 : Option Addr} {sl20 : Array (Option Value)} {oc20 kV20 dc20 pm20 cd20 ct20 : Value}
    {f21 : Addr} {od21 an21 : Option Addr} {sl21 : Array (Option Value)} {oc21 kV21 dc21 pm21 cd21 ct21 : Value}
    {f22 : Addr} {od22 an22 : Option Addr} {sl22 : Array (Option Value)} {oc22 kV22 dc22 pm22 cd22 ct22 : Value}
    {f23 : Addr} {od23 an23 : Option Addr} {sl23 : Array (Option Value)} {oc23 kV23 dc23 pm23 cd23 ct23 : Value}
    {f24 : Addr} {od24 an24 : Option Addr} {sl24 : Array (Option Value)} {oc24 kV24 dc24 pm24 cd24 ct24 : Value}
    {f25 : Addr} {od25 an25 : Option Addr} {sl25 : Array (Option Value)} {oc25 kV25 dc25 pm25 cd25 ct25 : Value}
    {f26 : Addr} {od26 an26 : Option Addr} {sl26 : Array (Option Value)} {oc26 kV26 dc26 pm26 cd26 ct26 : Value}
    {f27 : Addr} {od27 an27 : Option Addr} {sl27 : Array (Option Value)} {oc27 kV27 dc27 pm27 cd27 ct27 : Value}
    {f28 : Addr} {od28 an28 : Option Addr} {sl28 : Array (Option Value)} {oc28 kV28 dc28 pm28 cd28 ct28 : Value}
    {f29 : Addr} {od29 an29 : Option Addr} {sl29 : Array (Option Value)} {oc29 kV29 dc29 pm29 cd29 ct29 : Value}
    {f30 : Addr} {od30 an30 : Option Addr} {sl30 : Array (Option Value)} {oc30 kV30 dc30 pm30 cd30 ct30 : Value}
    {f31 : Addr} {od31 an31 : Option Addr} {sl31 : Array (Option Value)} {oc31 kV31 dc31 pm31 cd31 ct31 : Value}
    {f32 : Addr} {od32 an32 : Option Addr} {sl32 : Array (Option Value)} {oc32 kV32 dc32 pm32 cd32 ct32 : Value}
    {f33 : Addr} {od33 an33 : Option Addr} {sl33 : Array (Option Value)} {oc33 kV33 dc33 pm33 cd33 ct33 : Value}
    {f34 : Addr} {od34 an34 : Option Addr} {sl34 : Array (Option Value)} {oc34 kV34 dc34 pm34 cd34 ct34 : Value}
    {f35 : Addr} {od35 an35 : Option Addr} {sl35 : Array (Option Value)} {oc35 kV35 dc35 pm35 cd35 ct35 : Value}
    {f36 : Addr} {od36 an36 : Option Addr} {sl36 : Array (Option Value)} {oc36 kV36 dc36 pm36 cd36 ct36 : Value}
    {f37 : Addr} {od37 an37 : Option Addr} {sl37 : Array (Option Value)} {oc37 kV37 dc37 pm37 cd37 ct37 : Value}
    {f38 : Addr} {od38 an38 : Option Addr} {sl38 : Array (Option Value)} {oc38 kV38 dc38 pm38 cd38 ct38 : Value}
    {f39 : Addr} {od39 an39 : Option Addr} {sl39 : Array (Option Value)} {oc39 kV39 dc39 pm39 cd39 ct39 : Value}
    {f40 : Addr} {od40 an40 : Option Addr} {sl40 : Array (Option Value)} {oc40 kV40 dc40 pm40 cd40 ct40 : Value}
    {C0 : Addr}
    {C1 : Addr}
    {C2 : Addr}
    {C3 : Addr}
    {nmC1 qC1 : Str} {NC1 : Addr} {bsC1 : List Value} {snC1 : List Str} {sbC1 : List Value} {abC1 : Bool} {coC1 : Option Bool} {ddC1 : Option Addr} {m0C1 m1C1 m2C1 m3C1 m5C1 : Option Value}
    {fIC1 : Addr} {odIC1 anIC1 : Option Addr} {slIC1 : Array (Option Value)} {ocIC1 kVIC1 dcIC1 pmIC1 cdIC1 ctIC1 : Value}
    {nmC2 qC2 : Str} {NC2 : Addr} {bsC2 : List Value} {snC2 : List Str} {sbC2 : List Value} {abC2 : Bool} {coC2 : Option Bool} {ddC2 : Option Addr} {m0C2 m1C2 m2C2 m3C2 m5C2 : Option Value}
    {fIC2 : Addr} {odIC2 anIC2 : Option Addr} {slIC2 : Array (Option Value)} {ocIC2 kVIC2 dcIC2 pmIC2 cdIC2 ctIC2 : Value}
    {nmC3 qC3 : Str} {NC3 : Addr} {bsC3 : List Value} {snC3 : List Str} {sbC3 : List Value} {abC3 : Bool} {coC3 : Option Bool} {ddC3 : Option Addr} {m0C3 m1C3 m2C3 m3C3 m5C3 : Option Value}
    {fIC3 : Addr} {odIC3 anIC3 : Option Addr} {slIC3 : Array (Option Value)} {ocIC3 kVIC3 dcIC3 pmIC3 cdIC3 ctIC3 : Value}
    {tv_MOST_RANK : Tok}
    {tv_LETTERS : Tok}
    {tv_LONGEST : Tok}
    {tv_MOST_POINTS : Tok}
    {tv_MOST_GIVEN : Tok}
    {tv_MOST_LETTERS : Tok}
    {tv_SMALL : Tok}
    {tv_MOST_BOUNDS : Tok}
    {tv_MOST_COMMANDS : Tok}
    (gC4 : PySem.W.nsIn K mainGlobals "Workspace" = some (some (.ref C4)))
    (a0 : PySem.W.nsIn K mainGlobals "_law_stream" = some (some (.ref f0)))
    (l0 : K.lookup f0 = some ⟨oc0, od0, .func (PySem.W.fnOf "_law_stream" "_law_stream" (defArgs s__law_stream) (defBody s__law_stream) (defScope s__law_stream) .none kV0 dc0 pm0 an0 cd0 ct0), sl0⟩)
    (c0 : PySem.W.codeIn K cd0 "_law_stream" = true)
    (k0 : PySem.W.keepIn K (.ref f0) = true)
    (a1 : PySem.W.nsIn K mainGlobals "_law_next" = some (some (.ref f1)))
    (l1 : K.lookup f1 = some ⟨oc1, od1, .func (PySem.W.fnOf "_law_next" "_law_next" (defArgs s__law_next) (defBody s__law_next) (defScope s__law_next) .none kV1 dc1 pm1 an1 cd1 ct1), sl1⟩)
    (c1 : PySem.W.codeIn K cd1 "_law_next" = true)
    (k1 : PySem.W.keepIn K (.ref f1) = true)
    (a2 : PySem.W.nsIn K mainGlobals "_law_is_integer" = some (some (.ref f2)))
    (l2 : K.lookup f2 = some ⟨oc2, od2, .func (PySem.W.fnOf "_law_is_integer" "_law_is_integer" (defArgs s__law_is_integer) (defBody s__law_is_integer) (defScope s__law_is_integer) .none kV2 dc2 pm2 an2 cd2 ct2), sl2⟩)
    (c2 : PySem.W.codeIn K cd2 "_law_is_integer" = true)
    (k2 : PySem.W.keepIn K (.ref f2) = true)
    (a3 : PySem.W.nsIn K mainGlobals "_law_equal" = some (some (.ref f3)))
    (l3 : K.lookup f3 = some ⟨oc3, od3, .func (PySem.W.fnOf "_law_equal" "_law_equal" (defArgs s__law_equal) (defBody s__law_equal) (defScope s__law_equal) .none kV3 dc3 pm3 an3 cd3 ct3), sl3⟩)
    (c3 : PySem.W.codeIn K cd3 "_law_equal" = true)
    (k3 : PySem.W.keepIn K (.ref f3) = true)
    (a4 : PySem.W.nsIn K mainGlobals "_law_returns" = some (some (.ref f4)))
    (l4 : K.lookup f4 = some ⟨oc4, od4, .func (PySem.W.fnOf "_law_returns" "_law_returns" (defArgs s__law_returns) (defBody s__law_returns) (defScope s__law_returns) .none kV4 dc4 pm4 an4 cd4 ct4), sl4⟩)
    (c4 : PySem.W.codeIn K cd4 "_law_returns" = true)
    (k4 : PySem.W.keepIn K (.ref f4) = true)
    (a5 : PySem.W.nsIn K mainGlobals "_law_letters" = some (some (.ref f5)))
    (l5 : K.lookup f5 = some ⟨oc5, od5, .func (PySem.W.fnOf "_law_letters" "_law_letters" (defArgs s__law_letters) (defBody s__law_letters) (defScope s__law_letters) .none kV5 dc5 pm5 an5 cd5 ct5), sl5⟩)
    (c5 : PySem.W.codeIn K cd5 "_law_letters" = true)
    (k5 : PySem.W.keepIn K (.ref f5) = true)
    (a6 : PySem.W.nsIn K mainGlobals "_law_word" = some (some (.ref f6)))
    (l6 : K.lookup f6 = some ⟨oc6, od6, .func (PySem.W.fnOf "_law_word" "_law_word" (defArgs s__law_word) (defBody s__law_word) (defScope s__law_word) .none kV6 dc6 pm6 an6 cd6 ct6), sl6⟩)
    (c6 : PySem.W.codeIn K cd6 "_law_word" = true)
    (k6 : PySem.W.keepIn K (.ref f6) = true)
    (a7 : PySem.W.nsIn K mainGlobals "_law_opposite" = some (some (.ref f7)))
    (l7 : K.lookup f7 = some ⟨oc7, od7, .func (PySem.W.fnOf "_law_opposite" "_law_opposite" (defArgs s__law_opposite) (defBody s__law_opposite) (defScope s__law_opposite) .none kV7 dc7 pm7 an7 cd7 ct7), sl7⟩)
    (c7 : PySem.W.codeIn K cd7 "_law_opposite" = true)
    (k7 : PySem.W.keepIn K (.ref f7) = true)
    (a8 : PySem.W.nsIn K mainGlobals "_law_inverse" = some (some (.ref f8)))
    (l8 : K.lookup f8 = some ⟨oc8, od8, .func (PySem.W.fnOf "_law_inverse" "_law_inverse" (defArgs s__law_inverse) (defBody s__law_inverse) (defScope s__law_inverse) .none kV8 dc8 pm8 an8 cd8 ct8), sl8⟩)
    (c8 : PySem.W.codeIn K cd8 "_law_inverse" = true)
    (k8 : PySem.W.keepIn K (.ref f8) = true)
    (a9 : PySem.W.nsIn K mainGlobals "_law_swap" = some (some (.ref f9)))
    (l9 : K.lookup f9 = some ⟨oc9, od9, .func (PySem.W.fnOf "_law_swap" "_law_swap" (defArgs s__law_swap) (defBody s__law_swap) (defScope s__law_swap) .none kV9 dc9 pm9 an9 cd9 ct9), sl9⟩)
    (c9 : PySem.W.codeIn K cd9 "_law_swap" = true)
    (k9 : PySem.W.keepIn K (.ref f9) = true)
    (a10 : PySem.W.nsIn K mainGlobals "_law_command" = some (some (.ref f10)))
    (l10 : K.lookup f10 = some ⟨oc10, od10, .func (PySem.W.fnOf "_law_command" "_law_command" (defArgs s__law_command) (defBody s__law_command) (defScope s__law_command) .none kV10 dc10 pm10 an10 cd10 ct10), sl10⟩)
    (c10 : PySem.W.codeIn K cd10 "_law_command" = true)
    (k10 : PySem.W.keepIn K (.ref f10) = true)
    (a11 : PySem.W.nsIn K mainGlobals "_law_why_not" = some (some (.ref f11)))
    (l11 : K.lookup f11 = some ⟨oc11, od11, .func (PySem.W.fnOf "_law_why_not" "_law_why_not" (defArgs s__law_why_not) (defBody s__law_why_not) (defScope s__law_why_not) .none kV11 dc11 pm11 an11 cd11 ct11), sl11⟩)
    (c11 : PySem.W.codeIn K cd11 "_law_why_not" = true)
    (k11 : PySem.W.keepIn K (.ref f11) = true)
    (a12 : PySem.W.nsIn K mainGlobals "_law_behind" = some (some (.ref f12)))
    (l12 : K.lookup f12 = some ⟨oc12, od12, .func (PySem.W.fnOf "_law_behind" "_law_behind" (defArgs s__law_behind) (defBody s__law_behind) (defScope s__law_behind) .none kV12 dc12 pm12 an12 cd12 ct12), sl12⟩)
    (c12 : PySem.W.codeIn K cd12 "_law_behind" = true)
    (k12 : PySem.W.keepIn K (.ref f12) = true)
    (a13 : PySem.W.nsIn K mainGlobals "_law_product" = some (some (.ref f13)))
    (l13 : K.lookup f13 = some ⟨oc13, od13, .func (PySem.W.fnOf "_law_product" "_law_product" (defArgs s__law_product) (defBody s__law_product) (defScope s__law_product) .none kV13 dc13 pm13 an13 cd13 ct13), sl13⟩)
    (c13 : PySem.W.codeIn K cd13 "_law_product" = true)
    (k13 : PySem.W.keepIn K (.ref f13) = true)
    (a14 : PySem.W.nsIn K mainGlobals "_law_asked" = some (some (.ref f14)))
    (l14 : K.lookup f14 = some ⟨oc14, od14, .func (PySem.W.fnOf "_law_asked" "_law_asked" (defArgs s__law_asked) (defBody s__law_asked) (defScope s__law_asked) .none kV14 dc14 pm14 an14 cd14 ct14), sl14⟩)
    (c14 : PySem.W.codeIn K cd14 "_law_asked" = true)
    (k14 : PySem.W.keepIn K (.ref f14) = true)
    (a15 : PySem.W.nsIn K mainGlobals "is_between" = some (some (.ref f15)))
    (l15 : K.lookup f15 = some ⟨oc15, od15, .func (PySem.W.fnOf "is_between" "is_between" (defArgs s_is_between) (defBody s_is_between) (defScope s_is_between) .none kV15 dc15 pm15 an15 cd15 ct15), sl15⟩)
    (c15 : PySem.W.codeIn K cd15 "is_between" = true)
    (k15 : PySem.W.keepIn K (.ref f15) = true)
    (a16 : PySem.W.nsIn K mainGlobals "is_rank" = some (some (.ref f16)))
    (l16 : K.lookup f16 = some ⟨oc16, od16, .func (PySem.W.fnOf "is_rank" "is_rank" (defArgs s_is_rank) (defBody s_is_rank) (defScope s_is_rank) .none kV16 dc16 pm16 an16 cd16 ct16), sl16⟩)
    (c16 : PySem.W.codeIn K cd16 "is_rank" = true)
    (k16 : PySem.W.keepIn K (.ref f16) = true)
    (a17 : PySem.W.nsIn K mainGlobals "letters_of" = some (some (.ref f17)))
    (l17 : K.lookup f17 = some ⟨oc17, od17, .func (PySem.W.fnOf "letters_of" "letters_of" (defArgs s_letters_of) (defBody s_letters_of) (defScope s_letters_of) .none kV17 dc17 pm17 an17 cd17 ct17), sl17⟩)
    (c17 : PySem.W.codeIn K cd17 "letters_of" = true)
    (k17 : PySem.W.keepIn K (.ref f17) = true)
    (a18 : PySem.W.nsIn K mainGlobals "is_letters" = some (some (.ref f18)))
    (l18 : K.lookup f18 = some ⟨oc18, od18, .func (PySem.W.fnOf "is_letters" "is_letters" (defArgs s_is_letters) (defBody s_is_letters) (defScope s_is_letters) .none kV18 dc18 pm18 an18 cd18 ct18), sl18⟩)
    (c18 : PySem.W.codeIn K cd18 "is_letters" = true)
    (k18 : PySem.W.keepIn K (.ref f18) = true)
    (a19 : PySem.W.nsIn K mainGlobals "is_word" = some (some (.ref f19)))
    (l19 : K.lookup f19 = some ⟨oc19, od19, .func (PySem.W.fnOf "is_word" "is_word" (defArgs s_is_word) (defBody s_is_word) (defScope s_is_word) .none kV19 dc19 pm19 an19 cd19 ct19), sl19⟩)
    (c19 : PySem.W.codeIn K cd19 "is_word" = true)
    (k19 : PySem.W.keepIn K (.ref f19) = true)
    (a20 : PySem.W.nsIn K mainGlobals "is_integer" = some (some (.ref f20)))
    (l20 : K.lookup f20 = some ⟨oc20, od20, .func (PySem.W.fnOf "is_integer" "is_integer" (defArgs s_is_integer) (defBody s_is_integer) (defScope s_is_integer) .none kV20 dc20 pm20 an20 cd20 ct20), sl20⟩)
    (c20 : PySem.W.codeIn K cd20 "is_integer" = true)
    (k20 : PySem.W.keepIn K (.ref f20) = true)
    (a21 : PySem.W.nsIn K mainGlobals "is_permutation" = some (some (.ref f21)))
    (l21 : K.lookup f21 = some ⟨oc21, od21, .func (PySem.W.fnOf "is_permutation" "is_permutation" (defArgs s_is_permutation) (defBody s_is_permutation) (defScope s_is_permutation) .none kV21 dc21 pm21 an21 cd21 ct21), sl21⟩)
    (c21 : PySem.W.codeIn K cd21 "is_permutation" = true)
    (k21 : PySem.W.keepIn K (.ref f21) = true)
    (a22 : PySem.W.nsIn K mainGlobals "is_action" = some (some (.ref f22)))
    (l22 : K.lookup f22 = some ⟨oc22, od22, .func (PySem.W.fnOf "is_action" "is_action" (defArgs s_is_action) (defBody s_is_action) (defScope s_is_action) .none kV22 dc22 pm22 an22 cd22 ct22), sl22⟩)
    (c22 : PySem.W.codeIn K cd22 "is_action" = true)
    (k22 : PySem.W.keepIn K (.ref f22) = true)
    (a23 : PySem.W.nsIn K mainGlobals "is_number" = some (some (.ref f23)))
    (l23 : K.lookup f23 = some ⟨oc23, od23, .func (PySem.W.fnOf "is_number" "is_number" (defArgs s_is_number) (defBody s_is_number) (defScope s_is_number) .none kV23 dc23 pm23 an23 cd23 ct23), sl23⟩)
    (c23 : PySem.W.codeIn K cd23 "is_number" = true)
    (k23 : PySem.W.keepIn K (.ref f23) = true)
    (a24 : PySem.W.nsIn K mainGlobals "is_command" = some (some (.ref f24)))
    (l24 : K.lookup f24 = some ⟨oc24, od24, .func (PySem.W.fnOf "is_command" "is_command" (defArgs s_is_command) (defBody s_is_command) (defScope s_is_command) .none kV24 dc24 pm24 an24 cd24 ct24), sl24⟩)
    (c24 : PySem.W.codeIn K cd24 "is_command" = true)
    (k24 : PySem.W.keepIn K (.ref f24) = true)
    (a25 : PySem.W.nsIn K mainGlobals "without" = some (some (.ref f25)))
    (l25 : K.lookup f25 = some ⟨oc25, od25, .func (PySem.W.fnOf "without" "without" (defArgs s_without) (defBody s_without) (defScope s_without) .none kV25 dc25 pm25 an25 cd25 ct25), sl25⟩)
    (c25 : PySem.W.codeIn K cd25 "without" = true)
    (k25 : PySem.W.keepIn K (.ref f25) = true)
    (a26 : PySem.W.nsIn K mainGlobals "image_by" = some (some (.ref f26)))
    (l26 : K.lookup f26 = some ⟨oc26, od26, .func (PySem.W.fnOf "image_by" "image_by" (defArgs s_image_by) (defBody s_image_by) (defScope s_image_by) .none kV26 dc26 pm26 an26 cd26 ct26), sl26⟩)
    (c26 : PySem.W.codeIn K cd26 "image_by" = true)
    (k26 : PySem.W.keepIn K (.ref f26) = true)
    (a27 : PySem.W.nsIn K mainGlobals "image_of" = some (some (.ref f27)))
    (l27 : K.lookup f27 = some ⟨oc27, od27, .func (PySem.W.fnOf "image_of" "image_of" (defArgs s_image_of) (defBody s_image_of) (defScope s_image_of) .none kV27 dc27 pm27 an27 cd27 ct27), sl27⟩)
    (c27 : PySem.W.codeIn K cd27 "image_of" = true)
    (k27 : PySem.W.keepIn K (.ref f27) = true)
    (a28 : PySem.W.nsIn K mainGlobals "returns_in" = some (some (.ref f28)))
    (l28 : K.lookup f28 = some ⟨oc28, od28, .func (PySem.W.fnOf "returns_in" "returns_in" (defArgs s_returns_in) (defBody s_returns_in) (defScope s_returns_in) .none kV28 dc28 pm28 an28 cd28 ct28), sl28⟩)
    (c28 : PySem.W.codeIn K cd28 "returns_in" = true)
    (k28 : PySem.W.keepIn K (.ref f28) = true)
    (a29 : PySem.W.nsIn K mainGlobals "with_word" = some (some (.ref f29)))
    (l29 : K.lookup f29 = some ⟨oc29, od29, .func (PySem.W.fnOf "with_word" "with_word" (defArgs s_with_word) (defBody s_with_word) (defScope s_with_word) .none kV29 dc29 pm29 an29 cd29 ct29), sl29⟩)
    (c29 : PySem.W.codeIn K cd29 "with_word" = true)
    (k29 : PySem.W.keepIn K (.ref f29) = true)
    (a30 : PySem.W.nsIn K mainGlobals "with_bound" = some (some (.ref f30)))
    (l30 : K.lookup f30 = some ⟨oc30, od30, .func (PySem.W.fnOf "with_bound" "with_bound" (defArgs s_with_bound) (defBody s_with_bound) (defScope s_with_bound) .none kV30 dc30 pm30 an30 cd30 ct30), sl30⟩)
    (c30 : PySem.W.codeIn K cd30 "with_bound" = true)
    (k30 : PySem.W.keepIn K (.ref f30) = true)
    (a31 : PySem.W.nsIn K mainGlobals "behind" = some (some (.ref f31)))
    (l31 : K.lookup f31 = some ⟨oc31, od31, .func (PySem.W.fnOf "behind" "behind" (defArgs s_behind) (defBody s_behind) (defScope s_behind) .none kV31 dc31 pm31 an31 cd31 ct31), sl31⟩)
    (c31 : PySem.W.codeIn K cd31 "behind" = true)
    (k31 : PySem.W.keepIn K (.ref f31) = true)
    (a32 : PySem.W.findIn K (.ref C4) "act" = some (some (.ref f32)))
    (l32 : K.lookup f32 = some ⟨oc32, od32, .func (PySem.W.fnOf "act" "Workspace.act" (defArgs s_Workspace_act) (defBody s_Workspace_act) (defScope s_Workspace_act) .none kV32 dc32 pm32 an32 cd32 ct32), sl32⟩)
    (c32 : PySem.W.codeIn K cd32 "Workspace.act" = true)
    (k32 : PySem.W.keepIn K (.ref f32) = true)
    (i32 : PySem.W.isFn K (.ref f32) = true)
    (a33 : PySem.W.nsIn K mainGlobals "_law_told" = some (some (.ref f33)))
    (l33 : K.lookup f33 = some ⟨oc33, od33, .func (PySem.W.fnOf "_law_told" "_law_told" (defArgs s__law_told) (defBody s__law_told) (defScope s__law_told) .none kV33 dc33 pm33 an33 cd33 ct33), sl33⟩)
    (c33 : PySem.W.codeIn K cd33 "_law_told" = true)
    (k33 : PySem.W.keepIn K (.ref f33) = true)
    (a34 : PySem.W.findIn K (.ref C4) "__init__" = some (some (.ref f34)))
    (l34 : K.lookup f34 = some ⟨oc34, od34, .func (PySem.W.fnOf "__init__" "Workspace.__init__" (defArgs s_Workspace_init) (defBody s_Workspace_init) (defScope s_Workspace_init) .none kV34 dc34 pm34 an34 cd34 ct34), sl34⟩)
    (c34 : PySem.W.codeIn K cd34 "Workspace.__init__" = true)
    (k34 : PySem.W.keepIn K (.ref f34) = true)
    (i34 : PySem.W.isFn K (.ref f34) = true)
    (a35 : PySem.W.findIn K (.ref C4) "family" = some (some (.ref f35)))
    (l35 : K.lookup f35 = some ⟨oc35, od35, .func (PySem.W.fnOf "family" "Workspace.family" (defArgs s_Workspace_family) (defBody s_Workspace_family) (defScope s_Workspace_family) .none kV35 dc35 pm35 an35 cd35 ct35), sl35⟩)
    (c35 : PySem.W.codeIn K cd35 "Workspace.family" = true)
    (k35 : PySem.W.keepIn K (.ref f35) = true)
    (i35 : PySem.W.isFn K (.ref f35) = true)
    (a36 : PySem.W.findIn K (.ref C4) "bounds" = some (some (.ref f36)))
    (l36 : K.lookup f36 = some ⟨oc36, od36, .func (PySem.W.fnOf "bounds" "Workspace.bounds" (defArgs s_Workspace_bounds) (defBody s_Workspace_bounds) (defScope s_Workspace_bounds) .none kV36 dc36 pm36 an36 cd36 ct36), sl36⟩)
    (c36 : PySem.W.codeIn K cd36 "Workspace.bounds" = true)
    (k36 : PySem.W.keepIn K (.ref f36) = true)
    (i36 : PySem.W.isFn K (.ref f36) = true)
    (a37 : PySem.W.findIn K (.ref C4) "journal" = some (some (.ref f37)))
    (l37 : K.lookup f37 = some ⟨oc37, od37, .func (PySem.W.fnOf "journal" "Workspace.journal" (defArgs s_Workspace_journal) (defBody s_Workspace_journal) (defScope s_Workspace_journal) .none kV37 dc37 pm37 an37 cd37 ct37), sl37⟩)
    (c37 : PySem.W.codeIn K cd37 "Workspace.journal" = true)
    (k37 : PySem.W.keepIn K (.ref f37) = true)
    (i37 : PySem.W.isFn K (.ref f37) = true)
    (a38 : PySem.W.findIn K (.ref C4) "check_word" = some (some (.ref f38)))
    (l38 : K.lookup f38 = some ⟨oc38, od38, .func (PySem.W.fnOf "check_word" "Workspace.check_word" (defArgs s_Workspace_check_word) (defBody s_Workspace_check_word) (defScope s_Workspace_check_word) .none kV38 dc38 pm38 an38 cd38 ct38), sl38⟩)
    (c38 : PySem.W.codeIn K cd38 "Workspace.check_word" = true)
    (k38 : PySem.W.keepIn K (.ref f38) = true)
    (i38 : PySem.W.isFn K (.ref f38) = true)
    (a39 : PySem.W.findIn K (.ref C4) "broken" = some (some (.ref f39)))
    (l39 : K.lookup f39 = some ⟨oc39, od39, .func (PySem.W.fnOf "broken" "Workspace.broken" (defArgs s_Workspace_broken) (defBody s_Workspace_broken) (defScope s_Workspace_broken) .none kV39 dc39 pm39 an39 cd39 ct39), sl39⟩)
    (c39 : PySem.W.codeIn K cd39 "Workspace.broken" = true)
    (k39 : PySem.W.keepIn K (.ref f39) = true)
    (i39 : PySem.W.isFn K (.ref f39) = true)
    (a40 : PySem.W.nsIn K mainGlobals "law" = some (some (.ref f40)))
    (l40 : K.lookup f40 = some ⟨oc40, od40, .func (PySem.W.fnOf "law" "law" (defArgs s_law) (defBody s_law) (defScope s_law) .none kV40 dc40 pm40 an40 cd40 ct40), sl40⟩)
    (c40 : PySem.W.codeIn K cd40 "law" = true)
    (k40 : PySem.W.keepIn K (.ref f40) = true)
    (gC0 : PySem.W.nsIn K mainGlobals "WaysError" = some (some (.ref C0)))
    (gC1 : PySem.W.nsIn K mainGlobals "BadValue" = some (some (.ref C1)))
    (gC2 : PySem.W.nsIn K mainGlobals "TooLarge" = some (some (.ref C2)))
    (gC3 : PySem.W.nsIn K mainGlobals "NotPossible" = some (some (.ref C3)))
    (gaC0 : PySem.W.findIn K (.ref C0) "__getattribute__" = some (some (.builtin "BaseException.__getattribute__")))
    (ggC0 : PySem.W.findIn K (.ref C0) "__getattr__" = some none)
    (ebC0 : PySem.W.subIn K (.ref C0) (.type "BaseException") = some true)
    (hdC0 : PySem.W.hasDictIn K C0 = true)
    (tyC0 : PySem.W.typeIn K (.ref C0) = some (.type "type"))
    (gaC1 : PySem.W.findIn K (.ref C1) "__getattribute__" = some (some (.builtin "BaseException.__getattribute__")))
    (ggC1 : PySem.W.findIn K (.ref C1) "__getattr__" = some none)
    (ebC1 : PySem.W.subIn K (.ref C1) (.type "BaseException") = some true)
    (hdC1 : PySem.W.hasDictIn K C1 = true)
    (tyC1 : PySem.W.typeIn K (.ref C1) = some (.type "type"))
    (gaC2 : PySem.W.findIn K (.ref C2) "__getattribute__" = some (some (.builtin "BaseException.__getattribute__")))
    (ggC2 : PySem.W.findIn K (.ref C2) "__getattr__" = some none)
    (ebC2 : PySem.W.subIn K (.ref C2) (.type "BaseException") = some true)
    (hdC2 : PySem.W.hasDictIn K C2 = true)
    (tyC2 : PySem.W.typeIn K (.ref C2) = some (.type "type"))
    (gaC3 : PySem.W.findIn K (.ref C3) "__getattribute__" = some (some (.builtin "BaseException.__getattribute__")))
    (ggC3 : PySem.W.findIn K (.ref C3) "__getattr__" = some none)
    (ebC3 : PySem.W.subIn K (.ref C3) (.type "BaseException") = some true)
    (hdC3 : PySem.W.hasDictIn K C3 = true)
    (tyC3 : PySem.W.typeIn K (.ref C3) = some (.type "type"))
    (xC1 : K.lookup C1 = some (excClassObj nmC1 qC1 C1 NC1 bsC1 [.ref C0, .type "ValueError", .type "Exception", .type "BaseException", .type "object"] true snC1 sbC1 abC1 coC1 ddC1 m0C1 m1C1 m2C1 m3C1 m5C1 "ValueError.__new__"))
    (saC1 : PySem.W.findIn K (.ref C1) "__setattr__" = some (some (.builtin "object.__setattr__")))
    (kcC1 : PySem.W.keepIn K (.ref C1) = true)
    (icC1 : PySem.W.findIn K (.ref C1) "__init__" = some (some (.ref fIC1)))
    (tiC1 : PySem.W.typeIn K (.ref fIC1) = some (.type "function"))
    (lIC1 : K.lookup fIC1 = some ⟨ocIC1, odIC1, .func (PySem.W.fnOf "__init__" "BadValue.__init__" (defArgs i_BadValue) (defBody i_BadValue) (defScope i_BadValue) .none kVIC1 dcIC1 pmIC1 anIC1 cdIC1 ctIC1), slIC1⟩)
    (cIC1 : PySem.W.codeIn K cdIC1 "BadValue.__init__" = true)
    (kIC1 : PySem.W.keepIn K (.ref fIC1) = true)
    (xC2 : K.lookup C2 = some (excClassObj nmC2 qC2 C2 NC2 bsC2 [.ref C0, .type "ValueError", .type "Exception", .type "BaseException", .type "object"] true snC2 sbC2 abC2 coC2 ddC2 m0C2 m1C2 m2C2 m3C2 m5C2 "ValueError.__new__"))
    (saC2 : PySem.W.findIn K (.ref C2) "__setattr__" = some (some (.builtin "object.__setattr__")))
    (kcC2 : PySem.W.keepIn K (.ref C2) = true)
    (icC2 : PySem.W.findIn K (.ref C2) "__init__" = some (some (.ref fIC2)))
    (tiC2 : PySem.W.typeIn K (.ref fIC2) = some (.type "function"))
    (lIC2 : K.lookup fIC2 = some ⟨ocIC2, odIC2, .func (PySem.W.fnOf "__init__" "TooLarge.__init__" (defArgs i_TooLarge) (defBody i_TooLarge) (defScope i_TooLarge) .none kVIC2 dcIC2 pmIC2 anIC2 cdIC2 ctIC2), slIC2⟩)
    (cIC2 : PySem.W.codeIn K cdIC2 "TooLarge.__init__" = true)
    (kIC2 : PySem.W.keepIn K (.ref fIC2) = true)
    (xC3 : K.lookup C3 = some (excClassObj nmC3 qC3 C3 NC3 bsC3 [.ref C0, .type "ValueError", .type "Exception", .type "BaseException", .type "object"] true snC3 sbC3 abC3 coC3 ddC3 m0C3 m1C3 m2C3 m3C3 m5C3 "ValueError.__new__"))
    (saC3 : PySem.W.findIn K (.ref C3) "__setattr__" = some (some (.builtin "object.__setattr__")))
    (kcC3 : PySem.W.keepIn K (.ref C3) = true)
    (icC3 : PySem.W.findIn K (.ref C3) "__init__" = some (some (.ref fIC3)))
    (tiC3 : PySem.W.typeIn K (.ref fIC3) = some (.type "function"))
    (lIC3 : K.lookup fIC3 = some ⟨ocIC3, odIC3, .func (PySem.W.fnOf "__init__" "NotPossible.__init__" (defArgs i_NotPossible) (defBody i_NotPossible) (defScope i_NotPossible) .none kVIC3 dcIC3 pmIC3 anIC3 cdIC3 ctIC3), slIC3⟩)
    (cIC3 : PySem.W.codeIn K cdIC3 "NotPossible.__init__" = true)
    (kIC3 : PySem.W.keepIn K (.ref fIC3) = true)
    (pgC4 : PySem.W.plainGet K C4 Str.empty = true)
    (hdC4 : PySem.W.hasDictIn K C4 = true)
    (poC4 : PySem.W.plainOver K C4 = true)
    (saC4 : PySem.W.findIn K (.ref C4) "__setattr__" = some (some (.builtin "object.__setattr__")))
    (mkC4 : PySem.W.makesIn K C4 = true)
    (kcC4 : PySem.W.keepIn K (.ref C4) = true)
    (naC4_commands : PySem.W.findIn K (.ref C4) "commands" = some none)
    (naC4_rank : PySem.W.findIn K (.ref C4) "rank" = some none)
    (naC4_states : PySem.W.findIn K (.ref C4) "states" = some none)
    (n_list : PySem.W.nsIn K mainGlobals "list" = some none)
    (n_len : PySem.W.nsIn K mainGlobals "len" = some none)
    (n_abs : PySem.W.nsIn K mainGlobals "abs" = some none)
    (n_int : PySem.W.nsIn K mainGlobals "int" = some none)
    (n_isinstance : PySem.W.nsIn K mainGlobals "isinstance" = some none)
    (n_bool : PySem.W.nsIn K mainGlobals "bool" = some none)
    (n_str : PySem.W.nsIn K mainGlobals "str" = some none)
    (n_tuple : PySem.W.nsIn K mainGlobals "tuple" = some none)
    (n_range : PySem.W.nsIn K mainGlobals "range" = some none)
    (n_all : PySem.W.nsIn K mainGlobals "all" = some none)
    (v_MOST_RANK : PySem.W.nsIn K mainGlobals "MOST_RANK" = some (some (.int 3 tv_MOST_RANK)))
    (v_LETTERS : PySem.W.nsIn K mainGlobals "LETTERS" = some (some (.str "aAbBcC" tv_LETTERS)))
    (v_LONGEST : PySem.W.nsIn K mainGlobals "LONGEST" = some (some (.int 24 tv_LONGEST)))
    (n_sorted : PySem.W.nsIn K mainGlobals "sorted" = some none)
    (v_MOST_POINTS : PySem.W.nsIn K mainGlobals "MOST_POINTS" = some (some (.int 60 tv_MOST_POINTS)))
    (v_MOST_GIVEN : PySem.W.nsIn K mainGlobals "MOST_GIVEN" = some (some (.int 4 tv_MOST_GIVEN)))
    (v_MOST_LETTERS : PySem.W.nsIn K mainGlobals "MOST_LETTERS" = some (some (.int 8 tv_MOST_LETTERS)))
    (no_NotPossible_why : PySem.W.findIn K (.ref C3) "why" = some none)
    (v_SMALL : PySem.W.nsIn K mainGlobals "SMALL" = some (some (.str "abc" tv_SMALL)))
    (v_MOST_BOUNDS : PySem.W.nsIn K mainGlobals "MOST_BOUNDS" = some (some (.int 3 tv_MOST_BOUNDS)))
    (no_BadValue_name : PySem.W.findIn K (.ref C1) "name" = some none)
    (v_MOST_COMMANDS : PySem.W.nsIn K mainGlobals "MOST_COMMANDS" = some (some (.int 20 tv_MOST_COMMANDS)))
    (no_TooLarge_what : PySem.W.findIn K (.ref C2) "what" = some none)
    (sub_BadValue_NotPossible : PySem.W.subIn K (.ref C1) (.ref C3) = some false)
    (sub_TooLarge_NotPossible : PySem.W.subIn K (.ref C2) (.ref C3) = some false)
    (sub_NotPossible_NotPossible : PySem.W.subIn K (.ref C3) (.ref C3) = some true)
    (n_enumerate : PySem.W.nsIn K mainGlobals "enumerate" = some none)
    : ∃ fd : FuncData, (∀ (s : Shared) (u : Value), BindsTo s fd ⟨[u], []⟩ [("_law_script", u)]) ∧ ∀ base : Heap, K.In base → base.Ns mainGlobals mg → FnOk P w K mg base (L2.CX P w) 10 fa fd ["_law_script"] (spLaw K) := by
  have e := hfa.symm.trans (PySem.W.mg_of X Gn a40)
  cases e
  have F0 := fun_mk (st := s__law_stream) l0 c0 k0
  have F1 := fun_mk (st := s__law_next) l1 c1 k1
  have F2 := fun_mk (st := s__law_is_integer) l2 c2 k2
  have F3 := fun_mk (st := s__law_equal) l3 c3 k3
  have F4 := fun_mk (st := s__law_returns) l4 c4 k4
  have F5 := fun_mk (st := s__law_letters) l5 c5 k5
  have F6 := fun_mk (st := s__law_word) l6 c6 k6
  have F7 := fun_mk (st := s__law_opposite) l7 c7 k7
  have F8 := fun_mk (st := s__law_inverse) l8 c8 k8
  have F9 := fun_mk (st := s__law_swap) l9 c9 k9
  have F10 := fun_mk (st := s__law_command) l10 c10 k10
  have F11 := fun_mk (st := s__law_why_not) l11 c11 k11
  have F12 := fun_mk (st := s__law_behind) l12 c12 k12
  have F13 := fun_mk (st := s__law_product) l13 c13 k13
  have F14 := fun_mk (st := s__law_asked) l14 c14 k14
  have F15 := fun_mk (st := s_is_between) l15 c15 k15
  have F16 := fun_mk (st := s_is_rank) l16 c16 k16
  have F17 := fun_mk (st := s_letters_of) l17 c17 k17
  have F18 := fun_mk (st := s_is_letters) l18 c18 k18
  have F19 := fun_mk (st := s_is_word) l19 c19 k19
  have F20 := fun_mk (st := s_is_integer) l20 c20 k20
  have F21 := fun_mk (st := s_is_permutation) l21 c21 k21
  have F22 := fun_mk (st := s_is_action) l22 c22 k22
  have F23 := fun_mk (st := s_is_number) l23 c23 k23
  have F24 := fun_mk (st := s_is_command) l24 c24 k24
  have F25 := fun_mk (st := s_without) l25 c25 k25
  have F26 := fun_mk (st := s_image_by) l26 c26 k26
  have F27 := fun_mk (st := s_image_of) l27 c27 k27
  have F28 := fun_mk (st := s_returns_in) l28 c28 k28
  have F29 := fun_mk (st := s_with_word) l29 c29 k29
  have F30 := fun_mk (st := s_with_bound) l30 c30 k30
  have F31 := fun_mk (st := s_behind) l31 c31 k31
  have F32 := fun_mk (st := s_Workspace_act) l32 c32 k32
  have F33 := fun_mk (st := s__law_told) l33 c33 k33
  have F34 := fun_mk (st := s_Workspace_init) l34 c34 k34
  have F35 := fun_mk (st := s_Workspace_family) l35 c35 k35
  have F36 := fun_mk (st := s_Workspace_bounds) l36 c36 k36
  have F37 := fun_mk (st := s_Workspace_journal) l37 c37 k37
  have F38 := fun_mk (st := s_Workspace_check_word) l38 c38 k38
  have F39 := fun_mk (st := s_Workspace_broken) l39 c39 k39
  have F40 := fun_mk (st := s_law) l40 c40 k40
  have FIC1 := fun_mk (st := i_BadValue) lIC1 cIC1 kIC1
  have FIC2 := fun_mk (st := i_TooLarge) lIC2 cIC2 kIC2
  have FIC3 := fun_mk (st := i_NotPossible) lIC3 cIC3 kIC3
  have T : Txt K mg ⟨f0, PySem.W.fnOf "_law_stream" "_law_stream" (defArgs s__law_stream) (defBody s__law_stream) (defScope s__law_stream) .none kV0 dc0 pm0 an0 cd0 ct0, f1, PySem.W.fnOf "_law_next" "_law_next" (defArgs s__law_next) (defBody s__law_next) (defScope s__law_next) .none kV1 dc1 pm1 an1 cd1 ct1, f2, PySem.W.fnOf "_law_is_integer" "_law_is_integer" (defArgs s__law_is_integer) (defBody s__law_is_integer) (defScope s__law_is_integer) .none kV2 dc2 pm2 an2 cd2 ct2, f3, PySem.W.fnOf "_law_equal" "_law_equal" (defArgs s__law_equal) (defBody s__law_equal) (defScope s__law_equal) .none kV3 dc3 pm3 an3 cd3 ct3, f4, PySem.W.fnOf "_law_returns" "_law_returns" (defArgs s__law_returns) (defBody s__law_returns) (defScope s__law_returns) .none kV4 dc4 pm4 an4 cd4 ct4, f5, PySem.W.fnOf "_law_letters" "_law_letters" (defArgs s__law_letters) (defBody s__law_letters) (defScope s__law_letters) .none kV5 dc5 pm5 an5 cd5 ct5, f6, PySem.W.fnOf "_law_word" "_law_word" (defArgs s__law_word) (defBody s__law_word) (defScope s__law_word) .none kV6 dc6 pm6 an6 cd6 ct6, f7, PySem.W.fnOf "_law_opposite" "_law_opposite" (defArgs s__law_opposite) (defBody s__law_opposite) (defScope s__law_opposite) .none kV7 dc7 pm7 an7 cd7 ct7, f8, PySem.W.fnOf "_law_inverse" "_law_inverse" (defArgs s__law_inverse) (defBody s__law_inverse) (defScope s__law_inverse) .none kV8 dc8 pm8 an8 cd8 ct8, f9, PySem.W.fnOf "_law_swap" "_law_swap" (defArgs s__law_swap) (defBody s__law_swap) (defScope s__law_swap) .none kV9 dc9 pm9 an9 cd9 ct9, f10, PySem.W.fnOf "_law_command" "_law_command" (defArgs s__law_command) (defBody s__law_command) (defScope s__law_command) .none kV10 dc10 pm10 an10 cd10 ct10, f11, PySem.W.fnOf "_law_why_not" "_law_why_not" (defArgs s__law_why_not) (defBody s__law_why_not) (defScope s__law_why_not) .none kV11 dc11 pm11 an11 cd11 ct11, f12, PySem.W.fnOf "_law_behind" "_law_behind" (defArgs s__law_behind) (defBody s__law_behind) (defScope s__law_behind) .none kV12 dc12 pm12 an12 cd12 ct12, f13, PySem.W.fnOf "_law_product" "_law_product" (defArgs s__law_product) (defBody s__law_product) (defScope s__law_product) .none kV13 dc13 pm13 an13 cd13 ct13, f14, PySem.W.fnOf "_law_asked" "_law_asked" (defArgs s__law_asked) (defBody s__law_asked) (defScope s__law_asked) .none kV14 dc14 pm14 an14 cd14 ct14, f15, PySem.W.fnOf "is_between" "is_between" (defArgs s_is_between) (defBody s_is_between) (defScope s_is_between) .none kV15 dc15 pm15 an15 cd15 ct15, f16, PySem.W.fnOf "is_rank" "is_rank" (defArgs s_is_rank) (defBody s_is_rank) (defScope s_is_rank) .none kV16 dc16 pm16 an16 cd16 ct16, f17, PySem.W.fnOf "letters_of" "letters_of" (defArgs s_letters_of) (defBody s_letters_of) (defScope s_letters_of) .none kV17 dc17 pm17 an17 cd17 ct17, f18, PySem.W.fnOf "is_letters" "is_letters" (defArgs s_is_letters) (defBody s_is_letters) (defScope s_is_letters) .none kV18 dc18 pm18 an18 cd18 ct18, f19, PySem.W.fnOf "is_word" "is_word" (defArgs s_is_word) (defBody s_is_word) (defScope s_is_word) .none kV19 dc19 pm19 an19 cd19 ct19, f20, PySem.W.fnOf "is_integer" "is_integer" (defArgs s_is_integer) (defBody s_is_integer) (defScope s_is_integer) .none kV20 dc20 pm20 an20 cd20 ct20, f21, PySem.W.fnOf "is_permutation" "is_permutation" (defArgs s_is_permutation) (defBody s_is_permutation) (defScope s_is_permutation) .none kV21 dc21 pm21 an21 cd21 ct21, f22, PySem.W.fnOf "is_action" "is_action" (defArgs s_is_action) (defBody s_is_action) (defScope s_is_action) .none kV22 dc22 pm22 an22 cd22 ct22, f23, PySem.W.fnOf "is_number" "is_number" (defArgs s_is_number) (defBody s_is_number) (defScope s_is_number) .none kV23 dc23 pm23 an23 cd23 ct23, f24, PySem.W.fnOf "is_command" "is_command" (defArgs s_is_command) (defBody s_is_command) (defScope s_is_command) .none kV24 dc24 pm24 an24 cd24 ct24, f25, PySem.W.fnOf "without" "without" (defArgs s_without) (defBody s_without) (defScope s_without) .none kV25 dc25 pm25 an25 cd25 ct25, f26, PySem.W.fnOf "image_by" "image_by" (defArgs s_image_by) (defBody s_image_by) (defScope s_image_by) .none kV26 dc26 pm26 an26 cd26 ct26, f27, PySem.W.fnOf "image_of" "image_of" (defArgs s_image_of) (defBody s_image_of) (defScope s_image_of) .none kV27 dc27 pm27 an27 cd27 ct27, f28, PySem.W.fnOf "returns_in" "returns_in" (defArgs s_returns_in) (defBody s_returns_in) (defScope s_returns_in) .none kV28 dc28 pm28 an28 cd28 ct28, f29, PySem.W.fnOf "with_word" "with_word" (defArgs s_with_word) (defBody s_with_word) (defScope s_with_word) .none kV29 dc29 pm29 an29 cd29 ct29, f30, PySem.W.fnOf "with_bound" "with_bound" (defArgs s_with_bound) (defBody s_with_bound) (defScope s_with_bound) .none kV30 dc30 pm30 an30 cd30 ct30, f31, PySem.W.fnOf "behind" "behind" (defArgs s_behind) (defBody s_behind) (defScope s_behind) .none kV31 dc31 pm31 an31 cd31 ct31, f32, PySem.W.fnOf "act" "Workspace.act" (defArgs s_Workspace_act) (defBody s_Workspace_act) (defScope s_Workspace_act) .none kV32 dc32 pm32 an32 cd32 ct32, f33, PySem.W.fnOf "_law_told" "_law_told" (defArgs s__law_told) (defBody s__law_told) (defScope s__law_told) .none kV33 dc33 pm33 an33 cd33 ct33, f34, PySem.W.fnOf "__init__" "Workspace.__init__" (defArgs s_Workspace_init) (defBody s_Workspace_init) (defScope s_Workspace_init) .none kV34 dc34 pm34 an34 cd34 ct34, f35, PySem.W.fnOf "family" "Workspace.family" (defArgs s_Workspace_family) (defBody s_Workspace_family) (defScope s_Workspace_family) .none kV35 dc35 pm35 an35 cd35 ct35, f36, PySem.W.fnOf "bounds" "Workspace.bounds" (defArgs s_Workspace_bounds) (defBody s_Workspace_bounds) (defScope s_Workspace_bounds) .none kV36 dc36 pm36 an36 cd36 ct36, f37, PySem.W.fnOf "journal" "Workspace.journal" (defArgs s_Workspace_journal) (defBody s_Workspace_journal) (defScope s_Workspace_journal) .none kV37 dc37 pm37 an37 cd37 ct37, f38, PySem.W.fnOf "check_word" "Workspace.check_word" (defArgs s_Workspace_check_word) (defBody s_Workspace_check_word) (defScope s_Workspace_check_word) .none kV38 dc38 pm38 an38 cd38 ct38, f39, PySem.W.fnOf "broken" "Workspace.broken" (defArgs s_Workspace_broken) (defBody s_Workspace_broken) (defScope s_Workspace_broken) .none kV39 dc39 pm39 an39 cd39 ct39, fa, PySem.W.fnOf "law" "law" (defArgs s_law) (defBody s_law) (defScope s_law) .none kV40 dc40 pm40 an40 cd40 ct40, C0, C1, C2, C3, fIC1, PySem.W.fnOf "__init__" "BadValue.__init__" (defArgs i_BadValue) (defBody i_BadValue) (defScope i_BadValue) .none kVIC1 dcIC1 pmIC1 anIC1 cdIC1 ctIC1, fIC2, PySem.W.fnOf "__init__" "TooLarge.__init__" (defArgs i_TooLarge) (defBody i_TooLarge) (defScope i_TooLarge) .none kVIC2 dcIC2 pmIC2 anIC2 cdIC2 ctIC2, fIC3, PySem.W.fnOf "__init__" "NotPossible.__init__" (defArgs i_NotPossible) (defBody i_NotPossible) (defScope i_NotPossible) .none kVIC3 dcIC3 pmIC3 anIC3 cdIC3 ctIC3, C4⟩ := {
    f__law_stream := ⟨F0, F0.binds (ps := ["_law_script"]) fun _ _ _ _ _ _ us hl => match us, hl with | [_], _ => rfl, k0⟩,
    g__law_stream := PySem.W.mg_of X Gn a0,
    f__law_next := ⟨F1, F1.binds (ps := ["_law_stream_here", "_law_many"]) fun _ _ _ _ _ _ us hl => match us, hl with | [_, _], _ => rfl, k1⟩,
    g__law_next := PySem.W.mg_of X Gn a1,
    f__law_is_integer := ⟨F2, F2.binds (ps := ["_law_actual"]) fun _ _ _ _ _ _ us hl => match us, hl with | [_], _ => rfl, k2⟩,
    g__law_is_integer := PySem.W.mg_of X Gn a2,
    f__law_equal := ⟨F3, F3.binds (ps := ["_law_actual", "_law_due"]) fun _ _ _ _ _ _ us hl => match us, hl with | [_, _], _ => rfl, k3⟩,
    g__law_equal := PySem.W.mg_of X Gn a3,
    f__law_returns := ⟨F4, F4.binds (ps := ["_law_action", "_law_word_here"]) fun _ _ _ _ _ _ us hl => match us, hl with | [_, _], _ => rfl, k4⟩,
    g__law_returns := PySem.W.mg_of X Gn a4,
    f__law_letters := ⟨F5, F5.binds (ps := ["_law_rank"]) fun _ _ _ _ _ _ us hl => match us, hl with | [_], _ => rfl, k5⟩,
    g__law_letters := PySem.W.mg_of X Gn a5,
    f__law_word := ⟨F6, F6.binds (ps := ["_law_stream_here", "_law_rank", "_law_most"]) fun _ _ _ _ _ _ us hl => match us, hl with | [_, _, _], _ => rfl, k6⟩,
    g__law_word := PySem.W.mg_of X Gn a6,
    f__law_opposite := ⟨F7, F7.binds (ps := ["_law_letter"]) fun _ _ _ _ _ _ us hl => match us, hl with | [_], _ => rfl, k7⟩,
    g__law_opposite := PySem.W.mg_of X Gn a7,
    f__law_inverse := ⟨F8, F8.binds (ps := ["_law_word_here"]) fun _ _ _ _ _ _ us hl => match us, hl with | [_], _ => rfl, k8⟩,
    g__law_inverse := PySem.W.mg_of X Gn a8,
    f__law_swap := ⟨F9, F9.binds (ps := ["_law_stream_here", "_law_rank"]) fun _ _ _ _ _ _ us hl => match us, hl with | [_, _], _ => rfl, k9⟩,
    g__law_swap := PySem.W.mg_of X Gn a9,
    f__law_command := ⟨F10, F10.binds (ps := ["_law_stream_here", "_law_rank", "_law_state"]) fun _ _ _ _ _ _ us hl => match us, hl with | [_, _, _], _ => rfl, k10⟩,
    g__law_command := PySem.W.mg_of X Gn a10,
    f__law_why_not := ⟨F11, F11.binds (ps := ["_law_state", "_law_command_here"]) fun _ _ _ _ _ _ us hl => match us, hl with | [_, _], _ => rfl, k11⟩,
    g__law_why_not := PySem.W.mg_of X Gn a11,
    f__law_behind := ⟨F12, F12.binds (ps := ["_law_state", "_law_command_here"]) fun _ _ _ _ _ _ us hl => match us, hl with | [_, _], _ => rfl, k12⟩,
    g__law_behind := PySem.W.mg_of X Gn a12,
    f__law_product := ⟨F13, F13.binds (ps := ["_law_stream_here", "_law_given", "_law_most"]) fun _ _ _ _ _ _ us hl => match us, hl with | [_, _, _], _ => rfl, k13⟩,
    g__law_product := PySem.W.mg_of X Gn a13,
    f__law_asked := ⟨F14, F14.binds (ps := ["_law_stream_here", "_law_rank", "_law_given"]) fun _ _ _ _ _ _ us hl => match us, hl with | [_, _, _], _ => rfl, k14⟩,
    g__law_asked := PySem.W.mg_of X Gn a14,
    f_is_between := ⟨F15, F15.binds (ps := ["value", "low", "high"]) fun _ _ _ _ _ _ us hl => match us, hl with | [_, _, _], _ => rfl, k15⟩,
    g_is_between := PySem.W.mg_of X Gn a15,
    f_is_rank := ⟨F16, F16.binds (ps := ["value"]) fun _ _ _ _ _ _ us hl => match us, hl with | [_], _ => rfl, k16⟩,
    g_is_rank := PySem.W.mg_of X Gn a16,
    f_letters_of := ⟨F17, F17.binds (ps := ["rank"]) fun _ _ _ _ _ _ us hl => match us, hl with | [_], _ => rfl, k17⟩,
    g_letters_of := PySem.W.mg_of X Gn a17,
    f_is_letters := ⟨F18, F18.binds (ps := ["value", "rank"]) fun _ _ _ _ _ _ us hl => match us, hl with | [_, _], _ => rfl, k18⟩,
    g_is_letters := PySem.W.mg_of X Gn a18,
    f_is_word := ⟨F19, F19.binds (ps := ["value", "rank"]) fun _ _ _ _ _ _ us hl => match us, hl with | [_, _], _ => rfl, k19⟩,
    g_is_word := PySem.W.mg_of X Gn a19,
    f_is_integer := ⟨F20, F20.binds (ps := ["value"]) fun _ _ _ _ _ _ us hl => match us, hl with | [_], _ => rfl, k20⟩,
    g_is_integer := PySem.W.mg_of X Gn a20,
    f_is_permutation := ⟨F21, F21.binds (ps := ["value", "many"]) fun _ _ _ _ _ _ us hl => match us, hl with | [_, _], _ => rfl, k21⟩,
    g_is_permutation := PySem.W.mg_of X Gn a21,
    f_is_action := ⟨F22, F22.binds (ps := ["value", "rank"]) fun _ _ _ _ _ _ us hl => match us, hl with | [_, _], _ => rfl, k22⟩,
    g_is_action := PySem.W.mg_of X Gn a22,
    f_is_number := ⟨F23, F23.binds (ps := ["value"]) fun _ _ _ _ _ _ us hl => match us, hl with | [_], _ => rfl, k23⟩,
    g_is_number := PySem.W.mg_of X Gn a23,
    f_is_command := ⟨F24, F24.binds (ps := ["value", "rank"]) fun _ _ _ _ _ _ us hl => match us, hl with | [_, _], _ => rfl, k24⟩,
    g_is_command := PySem.W.mg_of X Gn a24,
    f_without := ⟨F25, F25.binds (ps := ["row", "number"]) fun _ _ _ _ _ _ us hl => match us, hl with | [_, _], _ => rfl, k25⟩,
    g_without := PySem.W.mg_of X Gn a25,
    f_image_by := ⟨F26, F26.binds (ps := ["action", "point", "letter"]) fun _ _ _ _ _ _ us hl => match us, hl with | [_, _, _], _ => rfl, k26⟩,
    g_image_by := PySem.W.mg_of X Gn a26,
    f_image_of := ⟨F27, F27.binds (ps := ["action", "point", "word"]) fun _ _ _ _ _ _ us hl => match us, hl with | [_, _, _], _ => rfl, k27⟩,
    g_image_of := PySem.W.mg_of X Gn a27,
    f_returns_in := ⟨F28, F28.binds (ps := ["action", "word"]) fun _ _ _ _ _ _ us hl => match us, hl with | [_, _], _ => rfl, k28⟩,
    g_returns_in := PySem.W.mg_of X Gn a28,
    f_with_word := ⟨F29, F29.binds (ps := ["given", "bounds", "word"]) fun _ _ _ _ _ _ us hl => match us, hl with | [_, _, _], _ => rfl, k29⟩,
    g_with_word := PySem.W.mg_of X Gn a29,
    f_with_bound := ⟨F30, F30.binds (ps := ["given", "bounds", "action"]) fun _ _ _ _ _ _ us hl => match us, hl with | [_, _, _], _ => rfl, k30⟩,
    g_with_bound := PySem.W.mg_of X Gn a30,
    f_behind := ⟨F31, F31.binds (ps := ["state", "command"]) fun _ _ _ _ _ _ us hl => match us, hl with | [_, _], _ => rfl, k31⟩,
    g_behind := PySem.W.mg_of X Gn a31,
    f_Workspace_act := ⟨F32, F32.binds (ps := ["self", "command"]) fun _ _ _ _ _ _ us hl => match us, hl with | [_, _], _ => rfl, k32⟩,
    f__law_told := ⟨F33, F33.binds (ps := ["_law_space", "_law_command_here"]) fun _ _ _ _ _ _ us hl => match us, hl with | [_, _], _ => rfl, k33⟩,
    g__law_told := PySem.W.mg_of X Gn a33,
    f_Workspace_init := ⟨F34, F34.binds (ps := ["self", "rank"]) fun _ _ _ _ _ _ us hl => match us, hl with | [_, _], _ => rfl, k34⟩,
    f_Workspace_family := ⟨F35, F35.binds (ps := ["self"]) fun _ _ _ _ _ _ us hl => match us, hl with | [_], _ => rfl, k35⟩,
    f_Workspace_bounds := ⟨F36, F36.binds (ps := ["self"]) fun _ _ _ _ _ _ us hl => match us, hl with | [_], _ => rfl, k36⟩,
    f_Workspace_journal := ⟨F37, F37.binds (ps := ["self"]) fun _ _ _ _ _ _ us hl => match us, hl with | [_], _ => rfl, k37⟩,
    f_Workspace_check_word := ⟨F38, F38.binds (ps := ["self", "word"]) fun _ _ _ _ _ _ us hl => match us, hl with | [_, _], _ => rfl, k38⟩,
    f_Workspace_broken := ⟨F39, F39.binds (ps := ["self", "word"]) fun _ _ _ _ _ _ us hl => match us, hl with | [_, _], _ => rfl, k39⟩,
    f_law := ⟨F40, F40.binds (ps := ["_law_script"]) fun _ _ _ _ _ _ us hl => match us, hl with | [_], _ => rfl, k40⟩,
    g_law := PySem.W.mg_of X Gn a40,
    gl_WaysError := PySem.W.mg_of X Gn gC0,
    ty_WaysError := tyC0,
    xf_WaysError := ⟨gaC0, ggC0, ebC0, hdC0⟩,
    gl_BadValue := PySem.W.mg_of X Gn gC1,
    ty_BadValue := tyC1,
    xf_BadValue := ⟨gaC1, ggC1, ebC1, hdC1⟩,
    gl_TooLarge := PySem.W.mg_of X Gn gC2,
    ty_TooLarge := tyC2,
    xf_TooLarge := ⟨gaC2, ggC2, ebC2, hdC2⟩,
    gl_NotPossible := PySem.W.mg_of X Gn gC3,
    ty_NotPossible := tyC3,
    xf_NotPossible := ⟨gaC3, ggC3, ebC3, hdC3⟩,
    e_BadValue := ⟨PySem.W.mg_of X Gn gC1, oex_mk xC1 (by rfl) saC1 ebC1 tyC1 kcC1, icC1, tiC1, ⟨gaC1, ggC1, ebC1, hdC1⟩⟩,
    i_BadValue := ⟨FIC1, FIC1.binds (ps := ["self", "name"]) fun _ _ _ _ _ _ us hl => match us, hl with | [_, _], _ => rfl, kIC1⟩,
    e_TooLarge := ⟨PySem.W.mg_of X Gn gC2, oex_mk xC2 (by rfl) saC2 ebC2 tyC2 kcC2, icC2, tiC2, ⟨gaC2, ggC2, ebC2, hdC2⟩⟩,
    i_TooLarge := ⟨FIC2, FIC2.binds (ps := ["self", "what"]) fun _ _ _ _ _ _ us hl => match us, hl with | [_, _], _ => rfl, kIC2⟩,
    e_NotPossible := ⟨PySem.W.mg_of X Gn gC3, oex_mk xC3 (by rfl) saC3 ebC3 tyC3 kcC3, icC3, tiC3, ⟨gaC3, ggC3, ebC3, hdC3⟩⟩,
    i_NotPossible := ⟨FIC3, FIC3.binds (ps := ["self", "why"]) fun _ _ _ _ _ _ us hl => match us, hl with | [_, _], _ => rfl, kIC3⟩,
    cl_Workspace := ⟨pgC4, hdC4, poC4, saC4⟩,
    mk_Workspace := ⟨mkC4, a34, i34, kcC4⟩,
    gl_Workspace := PySem.W.mg_of X Gn gC4,
    na_Workspace_commands := naC4_commands,
    na_Workspace_rank := naC4_rank,
    na_Workspace_states := naC4_states,
    me_Workspace_act := ⟨a32, i32, k32⟩,
    me_Workspace_bounds := ⟨a36, i36, k36⟩,
    me_Workspace_broken := ⟨a39, i39, k39⟩,
    me_Workspace_check_word := ⟨a38, i38, k38⟩,
    me_Workspace_family := ⟨a35, i35, k35⟩,
    me_Workspace_journal := ⟨a37, i37, k37⟩,
    n_list := PySem.W.mg_none_of X Gn n_list,
    n_len := PySem.W.mg_none_of X Gn n_len,
    n_abs := PySem.W.mg_none_of X Gn n_abs,
    n_int := PySem.W.mg_none_of X Gn n_int,
    n_isinstance := PySem.W.mg_none_of X Gn n_isinstance,
    n_bool := PySem.W.mg_none_of X Gn n_bool,
    n_str := PySem.W.mg_none_of X Gn n_str,
    n_tuple := PySem.W.mg_none_of X Gn n_tuple,
    n_range := PySem.W.mg_none_of X Gn n_range,
    n_all := PySem.W.mg_none_of X Gn n_all,
    v_MOST_RANK := ⟨_, PySem.W.mg_of X Gn v_MOST_RANK⟩,
    v_LETTERS := ⟨_, PySem.W.mg_of X Gn v_LETTERS⟩,
    v_LONGEST := ⟨_, PySem.W.mg_of X Gn v_LONGEST⟩,
    n_sorted := PySem.W.mg_none_of X Gn n_sorted,
    v_MOST_POINTS := ⟨_, PySem.W.mg_of X Gn v_MOST_POINTS⟩,
    v_MOST_GIVEN := ⟨_, PySem.W.mg_of X Gn v_MOST_GIVEN⟩,
    v_MOST_LETTERS := ⟨_, PySem.W.mg_of X Gn v_MOST_LETTERS⟩,
    no_NotPossible_why := no_NotPossible_why,
    v_SMALL := ⟨_, PySem.W.mg_of X Gn v_SMALL⟩,
    v_MOST_BOUNDS := ⟨_, PySem.W.mg_of X Gn v_MOST_BOUNDS⟩,
    no_BadValue_name := no_BadValue_name,
    v_MOST_COMMANDS := ⟨_, PySem.W.mg_of X Gn v_MOST_COMMANDS⟩,
    no_TooLarge_what := no_TooLarge_what,
    sub_BadValue_NotPossible := sub_BadValue_NotPossible,
    sub_TooLarge_NotPossible := sub_TooLarge_NotPossible,
    sub_NotPossible_NotPossible := sub_NotPossible_NotPossible,
    n_enumerate := PySem.W.mg_none_of X Gn n_enumerate }
  exact ⟨_, fun s u => .of_eq rfl, fun base _ _ => law_imp (G := G K _) rfl law_true (ok_law T)⟩
end K88
open PySem PySem.W PyProof.Rows
set_option maxRecDepth 100000 in
set_option maxHeartbeats 0 in
theorem PySem.Challenge.cw_foldedways_k88_whole_commands_of_workspa_holds : PySem.Challenge.rw_foldedways_k88_whole_commands_of_workspa.Holds := by
  w_on; o_law; k_head; (case hw => w_witness2)
  k_fill
  refine DV.walk (l := PySem.Challenge.rw_foldedways_k88_whole_commands_of_workspa) (x := "_law_script") (k := 10) rfl rfl ⟨rfl, by decide, by decide⟩ (fun w h Y => PySem.W.kIn_of Y) ?F
  case F =>
    intro w mg fa h KX G hmg
    refine' K88.all_mk KX G hmg ?gC4 ?a0 ?l0 ?c0 ?k0 ?a1 ?l1 ?c1 ?k1 ?a2 ?l2 ?c2 ?k2 ?a3 ?l3 ?c3 ?k3 ?a4 ?l4 ?c4 ?k4 ?a5 ?l5 ?c5 ?k5 ?a6 ?l6 ?c6 ?k6 ?a7 ?l7 ?c7 ?k7 ?a8 ?l8 ?c8 ?k8 ?a9 ?l9 ?c9 ?k9 ?a10 ?l10 ?c10 ?k10 ?a11 ?l11 ?c11 ?k11 ?a12 ?l12 ?c12 ?k12 ?a13 ?l13 ?c13 ?k13 ?a14 ?l14 ?c14 ?k14 ?a15 ?l15 ?c15 ?k15 ?a16 ?l16 ?c16 ?k16 ?a17 ?l17 ?c17 ?k17 ?a18 ?l18 ?c18 ?k18 ?a19 ?l19 ?c19 ?k19 ?a20 ?l20 ?c20 ?k20 ?a21 ?l21 ?c21 ?k21 ?a22 ?l22 ?c22 ?k22 ?a23 ?l23 ?c23 ?k23 ?a24 ?l24 ?c24 ?k24 ?a25 ?l25 ?c25 ?k25 ?a26 ?l26 ?c26 ?k26 ?a27 ?l27 ?c27 ?k27 ?a28 ?l28 ?c28 ?k28 ?a29 ?l29 ?c29 ?k29 ?a30 ?l30 ?c30 ?k30 ?a31 ?l31 ?c31 ?k31 ?a32 ?l32 ?c32 ?k32 ?i32 ?a33 ?l33 ?c33 ?k33 ?a34 ?l34 ?c34 ?k34 ?i34 ?a35 ?l35 ?c35 ?k35 ?i35 ?a36 ?l36 ?c36 ?k36 ?i36 ?a37 ?l37 ?c37 ?k37 ?i37 ?a38 ?l38 ?c38 ?k38 ?i38 ?a39 ?l39 ?c39 ?k39 ?i39 ?a40 ?l40 ?c40 ?k40 ?gC0 ?gC1 ?gC2 ?gC3 ?gaC0 ?ggC0 ?ebC0 ?hdC0 ?tyC0 ?gaC1 ?ggC1 ?ebC1 ?hdC1 ?tyC1 ?gaC2 ?ggC2 ?ebC2 ?hdC2 ?tyC2 ?gaC3 ?ggC3 ?ebC3 ?hdC3 ?tyC3 ?xC1 ?saC1 ?kcC1 ?icC1 ?tiC1 ?lIC1 ?cIC1 ?kIC1 ?xC2 ?saC2 ?kcC2 ?icC2 ?tiC2 ?lIC2 ?cIC2 ?kIC2 ?xC3 ?saC3 ?kcC3 ?icC3 ?tiC3 ?lIC3 ?cIC3 ?kIC3 ?pgC4 ?hdC4 ?poC4 ?saC4 ?mkC4 ?kcC4 ?naC4_commands ?naC4_rank ?naC4_states ?n_list ?n_len ?n_abs ?n_int ?n_isinstance ?n_bool ?n_str ?n_tuple ?n_range ?n_all ?v_MOST_RANK ?v_LETTERS ?v_LONGEST ?n_sorted ?v_MOST_POINTS ?v_MOST_GIVEN ?v_MOST_LETTERS ?no_NotPossible_why ?v_SMALL ?v_MOST_BOUNDS ?no_BadValue_name ?v_MOST_COMMANDS ?no_TooLarge_what ?sub_BadValue_NotPossible ?sub_TooLarge_NotPossible ?sub_NotPossible_NotPossible ?n_enumerate
    (case gC4 => k_is)
    (case a0 => k_is)
    (case l0 => k_is)
    (case c0 => k_is)
    (case k0 => k_is)
    (case a1 => k_is)
    (case l1 => k_is)
    (case c1 => k_is)
    (case k1 => k_is)
    (case a2 => k_is)
    (case l2 => k_is)
    (case c2 => k_is)
    (case k2 => k_is)
    (case a3 => k_is)
    (case l3 => k_is)
    (case c3 => k_is)
    (case k3 => k_is)
    (case a4 => k_is)
    (case l4 => k_is)
    (case c4 => k_is)
    (case k4 => k_is)
    (case a5 => k_is)
    (case l5 => k_is)
    (case c5 => k_is)
    (case k5 => k_is)
    (case a6 => k_is)
    (case l6 => k_is)
    (case c6 => k_is)
    (case k6 => k_is)
    (case a7 => k_is)
    (case l7 => k_is)
    (case c7 => k_is)
    (case k7 => k_is)
    (case a8 => k_is)
    (case l8 => k_is)
    (case c8 => k_is)
    (case k8 => k_is)
    (case a9 => k_is)
    (case l9 => k_is)
    (case c9 => k_is)
    (case k9 => k_is)
    (case a10 => k_is)
    (case l10 => k_is)
    (case c10 => k_is)
    (case k10 => k_is)
    (case a11 => k_is)
    (case l11 => k_is)
    (case c11 => k_is)
    (case k11 => k_is)
    (case a12 => k_is)
    (case l12 => k_is)
    (case c12 => k_is)
    (case k12 => k_is)
    (case a13 => k_is)
    (case l13 => k_is)
    (case c13 => k_is)
    (case k13 => k_is)
    (case a14 => k_is)
    (case l14 => k_is)
    (case c14 => k_is)
    (case k14 => k_is)
    (case a15 => k_is)
    (case l15 => k_is)
    (case c15 => k_is)
    (case k15 => k_is)
    (case a16 => k_is)
    (case l16 => k_is)
    (case c16 => k_is)
    (case k16 => k_is)
    (case a17 => k_is)
    (case l17 => k_is)
    (case c17 => k_is)
    (case k17 => k_is)
    (case a18 => k_is)
    (case l18 => k_is)
    (case c18 => k_is)
    (case k18 => k_is)
    (case a19 => k_is)
    (case l19 => k_is)
    (case c19 => k_is)
    (case k19 => k_is)
    (case a20 => k_is)
    (case l20 => k_is)
    (case c20 => k_is)
    (case k20 => k_is)
    (case a21 => k_is)
    (case l21 => k_is)
    (case c21 => k_is)
    (case k21 => k_is)
    (case a22 => k_is)
    (case l22 => k_is)
    (case c22 => k_is)
    (case k22 => k_is)
    (case a23 => k_is)
    (case l23 => k_is)
    (case c23 => k_is)
    (case k23 => k_is)
    (case a24 => k_is)
    (case l24 => k_is)
    (case c24 => k_is)
    (case k24 => k_is)
    (case a25 => k_is)
    (case l25 => k_is)
    (case c25 => k_is)
    (case k25 => k_is)
    (case a26 => k_is)
    (case l26 => k_is)
    (case c26 => k_is)
    (case k26 => k_is)
    (case a27 => k_is)
    (case l27 => k_is)
    (case c27 => k_is)
    (case k27 => k_is)
    (case a28 => k_is)
    (case l28 => k_is)
    (case c28 => k_is)
    (case k28 => k_is)
    (case a29 => k_is)
    (case l29 => k_is)
    (case c29 => k_is)
    (case k29 => k_is)
    (case a30 => k_is)
    (case l30 => k_is)
    (case c30 => k_is)
    (case k30 => k_is)
    (case a31 => k_is)
    (case l31 => k_is)
    (case c31 => k_is)
    (case k31 => k_is)
    (case a32 => k_is)
    (case l32 => k_is)
    (case c32 => k_is)
    (case k32 => k_is)
    (case i32 => k_is)
    (case a33 => k_is)
    (case l33 => k_is)
    (case c33 => k_is)
    (case k33 => k_is)
    (case a34 => k_is)
    (case l34 => k_is)
    (case c34 => k_is)
    (case k34 => k_is)
    (case i34 => k_is)
    (case a35 => k_is)
    (case l35 => k_is)
    (case c35 => k_is)
    (case k35 => k_is)
    (case i35 => k_is)
    (case a36 => k_is)
    (case l36 => k_is)
    (case c36 => k_is)
    (case k36 => k_is)
    (case i36 => k_is)
    (case a37 => k_is)
    (case l37 => k_is)
    (case c37 => k_is)
    (case k37 => k_is)
    (case i37 => k_is)
    (case a38 => k_is)
    (case l38 => k_is)
    (case c38 => k_is)
    (case k38 => k_is)
    (case i38 => k_is)
    (case a39 => k_is)
    (case l39 => k_is)
    (case c39 => k_is)
    (case k39 => k_is)
    (case i39 => k_is)
    (case a40 => k_is)
    (case l40 => k_is)
    (case c40 => k_is)
    (case k40 => k_is)
    (case gC0 => k_is)
    (case gC1 => k_is)
    (case gC2 => k_is)
    (case gC3 => k_is)
    (case gaC0 => k_is)
    (case ggC0 => k_is)
    (case ebC0 => k_is)
    (case hdC0 => k_is)
    (case tyC0 => k_is)
    (case gaC1 => k_is)
    (case ggC1 => k_is)
    (case ebC1 => k_is)
    (case hdC1 => k_is)
    (case tyC1 => k_is)
    (case gaC2 => k_is)
    (case ggC2 => k_is)
    (case ebC2 => k_is)
    (case hdC2 => k_is)
    (case tyC2 => k_is)
    (case gaC3 => k_is)
    (case ggC3 => k_is)
    (case ebC3 => k_is)
    (case hdC3 => k_is)
    (case tyC3 => k_is)
    (case xC1 => k_is)
    (case saC1 => k_is)
    (case kcC1 => k_is)
    (case icC1 => k_is)
    (case tiC1 => k_is)
    (case lIC1 => k_is)
    (case cIC1 => k_is)
    (case kIC1 => k_is)
    (case xC2 => k_is)
    (case saC2 => k_is)
    (case kcC2 => k_is)
    (case icC2 => k_is)
    (case tiC2 => k_is)
    (case lIC2 => k_is)
    (case cIC2 => k_is)
    (case kIC2 => k_is)
    (case xC3 => k_is)
    (case saC3 => k_is)
    (case kcC3 => k_is)
    (case icC3 => k_is)
    (case tiC3 => k_is)
    (case lIC3 => k_is)
    (case cIC3 => k_is)
    (case kIC3 => k_is)
    (case pgC4 => k_is)
    (case hdC4 => k_is)
    (case poC4 => k_is)
    (case saC4 => k_is)
    (case mkC4 => k_is)
    (case kcC4 => k_is)
    (case naC4_commands => k_is)
    (case naC4_rank => k_is)
    (case naC4_states => k_is)
    (case n_list => k_is)
    (case n_len => k_is)
    (case n_abs => k_is)
    (case n_int => k_is)
    (case n_isinstance => k_is)
    (case n_bool => k_is)
    (case n_str => k_is)
    (case n_tuple => k_is)
    (case n_range => k_is)
    (case n_all => k_is)
    (case v_MOST_RANK => k_is)
    (case v_LETTERS => k_is)
    (case v_LONGEST => k_is)
    (case n_sorted => k_is)
    (case v_MOST_POINTS => k_is)
    (case v_MOST_GIVEN => k_is)
    (case v_MOST_LETTERS => k_is)
    (case no_NotPossible_why => k_is)
    (case v_SMALL => k_is)
    (case v_MOST_BOUNDS => k_is)
    (case no_BadValue_name => k_is)
    (case v_MOST_COMMANDS => k_is)
    (case no_TooLarge_what => k_is)
    (case sub_BadValue_NotPossible => k_is)
    (case sub_TooLarge_NotPossible => k_is)
    (case sub_NotPossible_NotPossible => k_is)
    (case n_enumerate => k_is)

