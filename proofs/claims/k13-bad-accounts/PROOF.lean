import PyProof.Rows.All
import Wide.All
import OpenK.AllK
import Wide.FinOn
import HandS.ForMost
import HandS.ForExc
import HandS.TupAny
import HandS.IsInst
import HandS.HotCalls
import HandS.ExcIs
import PySem.Challenge.RW_ringcede_k13_bad_accounts
set_option Elab.async false
set_option linter.all false
set_option maxRecDepth 100000
set_option maxHeartbeats 2000000
/-! R1: data, owned lists, what a frame's slots hold; the readings by a mirror. -/
namespace RC
open PySem PySem.Spec PyProof.Rows L2

/-- data: what a value is, the heap's addresses left out -/
inductive D where
  | non | bl (b : Bool) | int (i : Int) | str (x : Str)
  | tup (xs : List D) | lst (xs : List D) | dct (kvs : List (Key × D)) | obj (n : Str) (fs : List (Str × D))
  /-- a list of ints that is only read (the law's script) -/
  | scr (ns : List Int)
/-- a field of an object that is owned; an owned object -/
inductive F where | fz (d : D) | lst (ds : List D) | dct (kvs : List (Key × D))
inductive O where | lst (ds : List D) | dct (kvs : List (Key × D)) | obj (n : Str) (fs : List (Str × F))
/-- a slot: empty, fixed data, read only, owned, owned by the caller -/
inductive S where | un | pin (v : V) | fz (d : D) | rd (o : O) | ow (o : O) | mu (o : O)
inductive Lab where | amb | slot (i : Nat) | tmp | sub (l : Lab) (f : Str)
def Lab.root : Lab → Lab
  | .sub l _ => l.root
  | l => l
abbrev Env := List S
abbrev Om := Addr → Option Lab
structure Ga where
  K : PySem.W.Frag
  mg : Str → Option Value

def F.cold : F → D
  | .fz d => d
  | .lst ds => .lst ds
  | .dct kvs => .dct kvs
def O.cold : O → D
  | .lst ds => .lst ds
  | .dct kvs => .dct kvs
  | .obj n fs => .obj n (fs.map fun p => (p.1, p.2.cold))

def hide (om : Om) (H : Hp) : Hp := fun a => match om a with
  | none => H a
  | some _ => none
theorem hide_of {om : Om} {H : Hp} {a : Addr} (h : om a = none) : hide om H a = H a := by unfold hide; rw [h]
theorem hide_iff {om : Om} {H : Hp} {a : Addr} {o : HO} : hide om H a = some o ↔ om a = none ∧ H a = some o := by
  unfold hide
  cases h : om a with
  | none => simp
  | some l => simp

mutual
def Hd (g : Ga) (H : Hp) : D → V → Prop
  | .non, v => v = .non
  | .bl b, v => v = .bl b
  | .int i, v => v = .int i
  | .str x, v => v = .str x
  | .tup ds, v => ∃ a xs, v = .ref a ∧ H a = some (.tup xs) ∧ Hds g H ds xs
  | .lst ds, v => ∃ a xs, v = .ref a ∧ H a = some (.lst xs) ∧ Hds g H ds xs
  | .dct kvs, v => ∃ a ws, v = .ref a ∧ H a = some (.dK ws) ∧ Hks g H kvs ws
  | .scr ns, v => ∃ a, v = .ref a ∧ SqL g.K H a (ns.map V.int)
  | .obj n fs, v => ∃ a C dx ws, v = .ref a ∧ g.mg n = some (.ref C) ∧ H a = some (.ins C dx ws) ∧ Hfs g H fs ws
def Hds (g : Ga) (H : Hp) : List D → List V → Prop
  | [], xs => xs = []
  | d :: ds, xs => ∃ v vs, xs = v :: vs ∧ Hd g H d v ∧ Hds g H ds vs
def Hks (g : Ga) (H : Hp) : List (Key × D) → List (Key × V) → Prop
  | [], xs => xs = []
  | (k, d) :: ds, xs => ∃ v vs, xs = (k, v) :: vs ∧ Hd g H d v ∧ Hks g H ds vs
def Hfs (g : Ga) (H : Hp) : List (Str × D) → List (Str × V) → Prop
  | [], xs => xs = []
  | (f, d) :: ds, xs => ∃ v vs, xs = (f, v) :: vs ∧ Hd g H d v ∧ Hfs g H ds vs
end

theorem Same.seqT {K : PySem.W.Frag} {H H' : Hp} {a : Addr} {xs : List V} (e : Same H H') (h : SqT K H a xs) : SqT K H' a xs := by
  rcases h with (h | ⟨o, h⟩) | h
  · exact .inl (.inl (e _ _ h))
  · exact .inl (.inr ⟨o, e _ _ h⟩)
  · exact .inr h

section
variable {g : Ga} {H H' : Hp}
mutual
theorem Hd.mono (e : Same H H') : ∀ {d : D} {v : V}, Hd g H d v → Hd g H' d v
  | .non, v, h => by unfold Hd at h ⊢; exact h
  | .bl b, v, h => by unfold Hd at h ⊢; exact h
  | .int i, v, h => by unfold Hd at h ⊢; exact h
  | .str x, v, h => by unfold Hd at h ⊢; exact h
  | .tup ds, v, h => by
    unfold Hd at h ⊢
    obtain ⟨a, xs, h1, h2, h3⟩ := h
    exact ⟨a, xs, h1, e _ _ h2, Hds.mono e h3⟩
  | .lst ds, v, h => by
    unfold Hd at h ⊢
    obtain ⟨a, xs, h1, h2, h3⟩ := h
    exact ⟨a, xs, h1, e _ _ h2, Hds.mono e h3⟩
  | .dct kvs, v, h => by
    unfold Hd at h ⊢
    obtain ⟨a, ws, h1, h2, h3⟩ := h
    exact ⟨a, ws, h1, e _ _ h2, Hks.mono e h3⟩
  | .scr ns, v, h => by
    unfold Hd at h ⊢
    obtain ⟨a, h1, h2⟩ := h
    exact ⟨a, h1, e.seq h2⟩
  | .obj n fs, v, h => by
    unfold Hd at h ⊢
    obtain ⟨a, C, dx, ws, h1, h2, h3, h4⟩ := h
    exact ⟨a, C, dx, ws, h1, h2, e _ _ h3, Hfs.mono e h4⟩
theorem Hds.mono (e : Same H H') : ∀ {ds : List D} {xs : List V}, Hds g H ds xs → Hds g H' ds xs
  | [], xs, h => by unfold Hds at h ⊢; exact h
  | d :: ds, xs, h => by
    unfold Hds at h ⊢
    obtain ⟨v, vs, h1, h2, h3⟩ := h
    exact ⟨v, vs, h1, Hd.mono e h2, Hds.mono e h3⟩
theorem Hks.mono (e : Same H H') : ∀ {ds : List (Key × D)} {xs : List (Key × V)}, Hks g H ds xs → Hks g H' ds xs
  | [], xs, h => by unfold Hks at h ⊢; exact h
  | (k, d) :: ds, xs, h => by
    unfold Hks at h ⊢
    obtain ⟨v, vs, h1, h2, h3⟩ := h
    exact ⟨v, vs, h1, Hd.mono e h2, Hks.mono e h3⟩
theorem Hfs.mono (e : Same H H') : ∀ {ds : List (Str × D)} {xs : List (Str × V)}, Hfs g H ds xs → Hfs g H' ds xs
  | [], xs, h => by unfold Hfs at h ⊢; exact h
  | (k, d) :: ds, xs, h => by
    unfold Hfs at h ⊢
    obtain ⟨v, vs, h1, h2, h3⟩ := h
    exact ⟨v, vs, h1, Hd.mono e h2, Hfs.mono e h3⟩
end
end

/-! ### lists held -/
section
variable {g : Ga} {H : Hp}
theorem Hds.nil : Hds g H [] [] := by unfold Hds; rfl
theorem Hds.cons {d : D} {v : V} {ds : List D} {vs : List V} (h : Hd g H d v) (t : Hds g H ds vs) : Hds g H (d :: ds) (v :: vs) := by
  unfold Hds; exact ⟨v, vs, rfl, h, t⟩
theorem Hds.len : ∀ {ds : List D} {xs : List V}, Hds g H ds xs → ds.length = xs.length
  | [], xs, h => by unfold Hds at h; subst h; rfl
  | d :: ds, xs, h => by
    unfold Hds at h
    obtain ⟨v, vs, rfl, _, h3⟩ := h
    simp [Hds.len h3]
theorem Hds.get : ∀ {ds : List D} {xs : List V} {i : Nat} {d : D}, Hds g H ds xs → ds[i]? = some d → ∃ v, xs[i]? = some v ∧ Hd g H d v
  | [], xs, i, d, h, e => by simp at e
  | d0 :: ds, xs, 0, d, h, e => by
    unfold Hds at h
    obtain ⟨v, vs, rfl, h2, h3⟩ := h
    simp at e; subst e
    exact ⟨v, rfl, h2⟩
  | d0 :: ds, xs, i + 1, d, h, e => by
    unfold Hds at h
    obtain ⟨v, vs, rfl, h2, h3⟩ := h
    obtain ⟨u, h4, h5⟩ := Hds.get (i := i) (d := d) h3 (by simpa using e)
    exact ⟨u, by simpa using h4, h5⟩
theorem Hds.get' : ∀ {ds : List D} {xs : List V} {i : Nat} {v : V}, Hds g H ds xs → xs[i]? = some v → ∃ d, ds[i]? = some d ∧ Hd g H d v
  | [], xs, i, d, h, e => by unfold Hds at h; subst h; simp at e
  | d0 :: ds, xs, 0, d, h, e => by
    unfold Hds at h
    obtain ⟨v, vs, rfl, h2, h3⟩ := h
    simp at e; subst e
    exact ⟨_, rfl, h2⟩
  | d0 :: ds, xs, i + 1, d, h, e => by
    unfold Hds at h
    obtain ⟨v, vs, rfl, h2, h3⟩ := h
    obtain ⟨u, h4, h5⟩ := Hds.get' (i := i) (v := d) h3 (by simpa using e)
    exact ⟨u, by simpa using h4, h5⟩
theorem Hds.app : ∀ {ds es : List D} {xs ys : List V}, Hds g H ds xs → Hds g H es ys → Hds g H (ds ++ es) (xs ++ ys)
  | [], es, xs, ys, h, h' => by unfold Hds at h; subst h; exact h'
  | d :: ds, es, xs, ys, h, h' => by
    unfold Hds at h
    obtain ⟨v, vs, rfl, h2, h3⟩ := h
    exact .cons h2 (Hds.app h3 h')
theorem Hds.one {d : D} {v : V} (h : Hd g H d v) : Hds g H [d] [v] := .cons h .nil
theorem Hds.set : ∀ {ds : List D} {xs : List V} {d : D} {v : V} (i : Nat), Hds g H ds xs → Hd g H d v → Hds g H (ds.set i d) (xs.set i v)
  | [], xs, d, v, i, h, h' => by unfold Hds at h; subst h; exact .nil
  | d0 :: ds, xs, d, v, 0, h, h' => by
    unfold Hds at h
    obtain ⟨v0, vs, rfl, h2, h3⟩ := h
    exact .cons h' h3
  | d0 :: ds, xs, d, v, i + 1, h, h' => by
    unfold Hds at h
    obtain ⟨v0, vs, rfl, h2, h3⟩ := h
    exact .cons h2 (Hds.set i h3 h')
theorem Hds.take : ∀ {ds : List D} {xs : List V} (n : Nat), Hds g H ds xs → Hds g H (ds.take n) (xs.take n)
  | _, _, 0, _ => .nil
  | [], xs, n + 1, h => by unfold Hds at h; subst h; exact .nil
  | d0 :: ds, xs, n + 1, h => by
    unfold Hds at h
    obtain ⟨v0, vs, rfl, h2, h3⟩ := h
    exact .cons h2 (Hds.take n h3)
theorem Hds.drop : ∀ {ds : List D} {xs : List V} (n : Nat), Hds g H ds xs → Hds g H (ds.drop n) (xs.drop n)
  | _, _, 0, h => h
  | [], xs, n + 1, h => by unfold Hds at h; subst h; exact .nil
  | d0 :: ds, xs, n + 1, h => by
    unfold Hds at h
    obtain ⟨v0, vs, rfl, h2, h3⟩ := h
    exact Hds.drop n h3
theorem Hds.erase : ∀ {ds : List D} {xs : List V} (n : Nat), Hds g H ds xs → Hds g H (ds.eraseIdx n) (xs.eraseIdx n)
  | [], xs, n, h => by unfold Hds at h; subst h; simp; exact .nil
  | d0 :: ds, xs, 0, h => by
    unfold Hds at h
    obtain ⟨v0, vs, rfl, h2, h3⟩ := h
    exact h3
  | d0 :: ds, xs, n + 1, h => by
    unfold Hds at h
    obtain ⟨v0, vs, rfl, h2, h3⟩ := h
    exact .cons h2 (Hds.erase n h3)
theorem Hds.rep {d : D} {v : V} (h : Hd g H d v) : ∀ n, Hds g H (List.replicate n d) (List.replicate n v)
  | 0 => .nil
  | n + 1 => .cons h (Hds.rep h n)
theorem Hds.init {ds : List D} {xs : List V} (h : Hds g H ds xs) : Hds g H ds.dropLast xs.dropLast := by
  rw [List.dropLast_eq_take, List.dropLast_eq_take, h.len]; exact h.take _
end

/-! ### owned -/
def OwnF (g : Ga) (om : Om) (H : Hp) (l : Lab) : F → V → Prop
  | .fz d, v => Hd g (hide om H) d v
  | .lst ds, v => ∃ p xs, v = .ref p ∧ om p = some l ∧ H p = some (.lst xs) ∧ Hds g (hide om H) ds xs
  | .dct kvs, v => ∃ p ws, v = .ref p ∧ om p = some l ∧ H p = some (.dK ws) ∧ Hks g (hide om H) kvs ws
def OwnFs (g : Ga) (om : Om) (H : Hp) (l : Lab) : List (Str × F) → List (Str × V) → Prop
  | [], ws => ws = []
  | (f, o) :: fs, ws => ∃ v vs, ws = (f, v) :: vs ∧ OwnF g om H (.sub l f) o v ∧ OwnFs g om H l fs vs
def Own (g : Ga) (om : Om) (H : Hp) (l : Lab) : O → V → Prop
  | .lst ds, v => ∃ p xs, v = .ref p ∧ om p = some l ∧ H p = some (.lst xs) ∧ Hds g (hide om H) ds xs
  | .dct kvs, v => ∃ p ws, v = .ref p ∧ om p = some l ∧ H p = some (.dK ws) ∧ Hks g (hide om H) kvs ws
  | .obj n fs, v => ∃ p C dx ws, v = .ref p ∧ om p = some l ∧ g.mg n = some (.ref C) ∧ H p = some (.ins C dx ws) ∧ OwnFs g om H l fs ws

section
variable {g : Ga} {om om' : Om} {H H' : Hp}
/-- what is labelled under a root stays -/
def Stays (om : Om) (H : Hp) (om' : Om) (H' : Hp) (r : Lab) : Prop := ∀ a l, om a = some l → l.root = r → om' a = some l ∧ H' a = H a
theorem OwnF.mono {l r : Lab} (e : Same (hide om H) (hide om' H')) (k : Stays om H om' H' r) (hr : l.root = r) : ∀ {o : F} {v : V}, OwnF g om H l o v → OwnF g om' H' l o v
  | .fz d, v, h => Hd.mono e h
  | .lst ds, v, ⟨p, xs, h1, h2, h3, h4⟩ => ⟨p, xs, h1, (k _ _ h2 hr).1, by rw [(k _ _ h2 hr).2]; exact h3, h4.mono e⟩
  | .dct ds, v, ⟨p, xs, h1, h2, h3, h4⟩ => ⟨p, xs, h1, (k _ _ h2 hr).1, by rw [(k _ _ h2 hr).2]; exact h3, h4.mono e⟩
theorem OwnFs.mono {l r : Lab} (e : Same (hide om H) (hide om' H')) (k : Stays om H om' H' r) (hr : l.root = r) : ∀ {fs : List (Str × F)} {ws : List (Str × V)}, OwnFs g om H l fs ws → OwnFs g om' H' l fs ws
  | [], ws, h => h
  | (f, o) :: fs, ws, ⟨v, vs, h1, h2, h3⟩ => ⟨v, vs, h1, OwnF.mono (l := l.sub f) e k hr h2, OwnFs.mono e k hr h3⟩
theorem Own.mono {l r : Lab} (e : Same (hide om H) (hide om' H')) (k : Stays om H om' H' r) (hr : l.root = r) : ∀ {o : O} {v : V}, Own g om H l o v → Own g om' H' l o v
  | .lst ds, v, ⟨p, xs, h1, h2, h3, h4⟩ => ⟨p, xs, h1, (k _ _ h2 hr).1, by rw [(k _ _ h2 hr).2]; exact h3, h4.mono e⟩
  | .dct ds, v, ⟨p, xs, h1, h2, h3, h4⟩ => ⟨p, xs, h1, (k _ _ h2 hr).1, by rw [(k _ _ h2 hr).2]; exact h3, h4.mono e⟩
  | .obj n fs, v, ⟨p, C, dx, ws, h1, h2, h3, h4, h5⟩ => ⟨p, C, dx, ws, h1, (k _ _ h2 hr).1, h3, by rw [(k _ _ h2 hr).2]; exact h4, h5.mono e k hr⟩
/-- an owned thing laid cold -/
theorem OwnF.cold {l r : Lab} (e : Same (hide om H) (hide om' H')) (k : ∀ a l, om a = some l → l.root = r → om' a = none ∧ H' a = H a) (hr : l.root = r) : ∀ {o : F} {v : V}, OwnF g om H l o v → Hd g (hide om' H') o.cold v
  | .fz d, v, h => Hd.mono e h
  | .lst ds, v, ⟨p, xs, h1, h2, h3, h4⟩ => by
    unfold F.cold Hd
    exact ⟨p, xs, h1, (by rw [hide_of (k _ _ h2 hr).1, (k _ _ h2 hr).2]; exact h3), h4.mono e⟩
  | .dct ds, v, ⟨p, xs, h1, h2, h3, h4⟩ => by
    unfold F.cold Hd
    exact ⟨p, xs, h1, by rw [hide_of (k _ _ h2 hr).1, (k _ _ h2 hr).2]; exact h3, h4.mono e⟩
theorem OwnFs.cold {l r : Lab} (e : Same (hide om H) (hide om' H')) (k : ∀ a l, om a = some l → l.root = r → om' a = none ∧ H' a = H a) (hr : l.root = r) : ∀ {fs : List (Str × F)} {ws : List (Str × V)}, OwnFs g om H l fs ws → Hfs g (hide om' H') (fs.map fun p => (p.1, p.2.cold)) ws
  | [], ws, h => by unfold Hfs; exact h
  | (f, o) :: fs, ws, ⟨v, vs, h1, h2, h3⟩ => by
    show Hfs g (hide om' H') ((f, o.cold) :: fs.map fun p => (p.1, p.2.cold)) ws
    unfold Hfs
    exact ⟨v, vs, h1, OwnF.cold (l := l.sub f) e k hr h2, OwnFs.cold e k hr h3⟩
theorem Own.cold {l r : Lab} (e : Same (hide om H) (hide om' H')) (k : ∀ a l, om a = some l → l.root = r → om' a = none ∧ H' a = H a) (hr : l.root = r) : ∀ {o : O} {v : V}, Own g om H l o v → Hd g (hide om' H') o.cold v
  | .lst ds, v, ⟨p, xs, h1, h2, h3, h4⟩ => by
    unfold O.cold Hd
    exact ⟨p, xs, h1, (by rw [hide_of (k _ _ h2 hr).1, (k _ _ h2 hr).2]; exact h3), h4.mono e⟩
  | .dct ds, v, ⟨p, xs, h1, h2, h3, h4⟩ => by
    unfold O.cold Hd
    exact ⟨p, xs, h1, by rw [hide_of (k _ _ h2 hr).1, (k _ _ h2 hr).2]; exact h3, h4.mono e⟩
  | .obj n fs, v, ⟨p, C, dx, ws, h1, h2, h3, h4, h5⟩ => by
    unfold O.cold Hd
    exact ⟨p, C, dx, ws, h1, h3, by rw [hide_of (k _ _ h2 hr).1, (k _ _ h2 hr).2]; exact h4, h5.cold e k hr⟩
/-- in the full heap (a reader's view) -/
theorem hide_same : Same (hide om H) H := fun a o h => (hide_iff.mp h).2
end
end RC

set_option Elab.async false
set_option linter.all false
set_option maxRecDepth 100000
set_option maxHeartbeats 2000000
/-! R2: the relation of a frame to its mirror; readings; simple expressions. -/
namespace RC
open PySem PySem.Spec PyProof.Rows L2

inductive R where | fz (d : D) | tmp (o : O) | bor (l : Lab) (o : O)
/-- an operand -/
inductive P where | fz (d : D) | bor (l : Lab) (o : O)
structure Exc where
  cls : Str
  fs : Option (List (Str × D))
inductive Res (α : Type) where | ok (a : α) | rs (x : Exc) | stuck
inductive Fl where | nx (e : Env) | bk (e : Env) | ct (e : Env) | rt (r : R) (e : Env) | rs (x : Exc) (e : Env) | stuck
def Res.bind {α β : Type} (r : Res α) (f : α → Res β) : Res β := match r with
  | .ok a => f a
  | .rs x => .rs x
  | .stuck => .stuck
def Res.map {α β : Type} (r : Res α) (f : α → β) : Res β := match r with
  | .ok a => .ok (f a)
  | .rs x => .rs x
  | .stuck => .stuck
def Res.of {α : Type} : Option α → Res α
  | some a => .ok a
  | none => .stuck
def Lands {α : Type} (r : Res α) (A : α → Prop) (B : Exc → Prop) : Prop := match r with
  | .ok a => A a
  | .rs x => B x
  | .stuck => False
def R.op : R → P
  | .fz d => .fz d
  | .tmp o => .fz o.cold
  | .bor l o => .bor l o
def P.r : P → R
  | .fz d => .fz d
  | .bor l o => .bor l o

structure Zc where
  g : Ga
  om0 : Om
  H0 : Hp
  v0 : Option V
  /-- within an except suite -/
  hot : Bool

def SlotOk (g : Ga) (om : Om) (H : Hp) (w : Option (Option V)) (i : Nat) : S → Prop
  | .un => True
  | .pin v => w = some (some v)
  | .fz d => ∃ v, w = some (some v) ∧ Hd g (hide om H) d v
  | .rd o => ∃ v l, w = some (some v) ∧ l.root = .amb ∧ Own g om H l o v
  | .ow o => ∃ v, w = some (some v) ∧ Own g om H (.slot i) o v
  | .mu o => ∃ v, w = some (some v) ∧ Own g om H (.slot i) o v

structure Keep (om : Om) (H : Hp) (om' : Om) (H' : Hp) : Prop where
  st : Same (hide om H) (hide om' H')
  am : Stays om H om' H' .amb
  ma : ∀ a l, om' a = some l → l.root = .amb → om a = some l
theorem Keep.refl (om : Om) (H : Hp) : Keep om H om H := ⟨Same.refl _, fun _ _ h _ => ⟨h, rfl⟩, fun _ _ h _ => h⟩
theorem Keep.trans {om om' om'' : Om} {H H' H'' : Hp} (a : Keep om H om' H') (b : Keep om' H' om'' H'') : Keep om H om'' H'' :=
  ⟨a.st.trans b.st, fun x l h r => by
    obtain ⟨h1, h2⟩ := a.am x l h r
    obtain ⟨h3, h4⟩ := b.am x l h1 r
    exact ⟨h3, h4.trans h2⟩, fun x l h r => a.ma x l (b.ma x l h r) r⟩

structure Rel (Z : Zc) (om : Om) (σ : L2.St) (H : Hp) (env : Env) : Prop where
  tr : ∀ a l, om a = some l → ∃ o, H a = some o
  nt : ∀ a l, om a = some l → l.root ≠ .tmp
  kp : Keep Z.om0 Z.H0 om H
  ln : σ.length = env.length
  sl : ∀ (i : Nat) s, env[i]? = some s → SlotOk Z.g om H (σ[i]?) i s
  mu : ∀ o, env[0]? = some (.mu o) → σ[0]? = some Z.v0

/-- new objects, some of them temporarily owned -/
structure New (om : Om) (H : Hp) (om' : Om) (H' : Hp) : Prop where
  ex : Same H H'
  old : ∀ a l, om a = some l → om' a = some l
  new : ∀ a l, om' a = some l → om a = some l ∨ (H a = none ∧ l.root = .tmp ∧ ∃ o, H' a = some o)
theorem New.same {om : Om} {H H' : Hp} (h : Same H H') : New om H om H' := ⟨h, fun _ _ e => e, fun _ _ e => .inl e⟩

def POk (g : Ga) (om : Om) (H : Hp) : P → V → Prop
  | .fz d, v => Hd g (hide om H) d v
  | .bor l o, v => l ≠ .tmp ∧ ∃ l', l'.root = l ∧ Own g om H l' o v
def ROk (g : Ga) (om : Om) (H : Hp) : R → V → Prop
  | .fz d, v => Hd g (hide om H) d v
  | .tmp o, v => Own g om H .tmp o v
  | .bor l o, v => l ≠ .tmp ∧ ∃ l', l'.root = l ∧ Own g om H l' o v
def PsOk (g : Ga) (om : Om) (H : Hp) : List P → List V → Prop
  | [], vs => vs = []
  | p :: ps, vs => ∃ v r, vs = v :: r ∧ POk g om H p v ∧ PsOk g om H ps r
def ExOk (g : Ga) (om : Om) (H : Hp) (x : Exc) (c : Value) (d : Option Addr) : Prop :=
  ∃ C, g.mg x.cls = some (.ref C) ∧ c = .ref C ∧ match x.fs with
    | none => d = none
    | some fs => ∃ dd ws, d = some dd ∧ H dd = some (.xd ws) ∧ Hfs g (hide om H) fs ws

section
variable {Z : Zc} {om om' : Om} {σ : L2.St} {H H' : Hp} {env : Env}
theorem hide_grow (e : Same H H') : Same (hide om H) (hide om H') := fun a o h => by
  obtain ⟨h1, h2⟩ := hide_iff.mp h
  exact hide_iff.mpr ⟨h1, e a o h2⟩
theorem stays_grow (tr : ∀ a l, om a = some l → ∃ o, H a = some o) (e : Same H H') (r : Lab) : Stays om H om H' r := fun a l h _ => by
  obtain ⟨o, q⟩ := tr a l h
  exact ⟨h, by rw [q]; exact e a o q⟩
theorem keep_grow (tr : ∀ a l, om a = some l → ∃ o, H a = some o) (e : Same H H') : Keep om H om H' :=
  ⟨hide_grow e, stays_grow tr e _, fun _ _ h _ => h⟩
theorem New.hide (n : New om H om' H') (tr : ∀ a l, om a = some l → ∃ o, H a = some o) : Same (hide om H) (RC.hide om' H') := fun a o h => by
  obtain ⟨h1, h2⟩ := hide_iff.mp h
  refine hide_iff.mpr ⟨?_, n.ex a o h2⟩
  cases q : om' a with
  | none => rfl
  | some l =>
    rcases n.new a l q with z | ⟨z, _⟩
    · rw [h1] at z; cases z
    · rw [h2] at z; cases z
theorem New.stays (n : New om H om' H') (tr : ∀ a l, om a = some l → ∃ o, H a = some o) (r : Lab) : Stays om H om' H' r := fun a l h _ => by
  obtain ⟨o, q⟩ := tr a l h
  exact ⟨n.old a l h, by rw [q]; exact n.ex a o q⟩
theorem New.keep (n : New om H om' H') (tr : ∀ a l, om a = some l → ∃ o, H a = some o) : Keep om H om' H' :=
  ⟨n.hide tr, n.stays tr _, fun a l h r => by
    rcases n.new a l h with z | ⟨_, z, _⟩
    · exact z
    · rw [r] at z; cases z⟩
/-- behind a new labelling the old one hides less -/
theorem New.back (n : New om H om' H') : Same (RC.hide om' H') (RC.hide om H') := fun a o h => by
  obtain ⟨h1, h2⟩ := hide_iff.mp h
  refine hide_iff.mpr ⟨?_, h2⟩
  cases q : om a with
  | none => rfl
  | some l => rw [n.old a l q] at h1; cases h1
theorem SlotOk.mono {g : Ga} {w : Option (Option V)} {i : Nat} (e : Same (RC.hide om H) (RC.hide om' H')) (k : ∀ r, r = .amb ∨ r = .slot i → Stays om H om' H' r) : ∀ {s : S}, SlotOk g om H w i s → SlotOk g om' H' w i s
  | .un, _ => trivial
  | .pin v, h => h
  | .fz d, ⟨v, h1, h2⟩ => ⟨v, h1, h2.mono e⟩
  | .rd o, ⟨v, l, h1, hl, h2⟩ => ⟨v, l, h1, hl, h2.mono e (k _ (.inl rfl)) hl⟩
  | .ow o, ⟨v, h1, h2⟩ => ⟨v, h1, h2.mono e (k _ (.inr rfl)) rfl⟩
  | .mu o, ⟨v, h1, h2⟩ => ⟨v, h1, h2.mono e (k _ (.inr rfl)) rfl⟩
theorem Rel.grow (r : Rel Z om σ H env) (e : Same H H') : Rel Z om σ H' env :=
  ⟨fun a l h => by obtain ⟨o, q⟩ := r.tr a l h; exact ⟨o, e a o q⟩, r.nt, r.kp.trans (keep_grow r.tr e), r.ln,
    fun i s h => (r.sl i s h).mono (hide_grow e) fun _ _ => stays_grow r.tr e _, r.mu⟩
theorem POk.grow {g : Ga} (tr : ∀ a l, om a = some l → ∃ o, H a = some o) (e : Same H H') : ∀ {p : P} {v : V}, POk g om H p v → POk g om H' p v
  | .fz d, v, h => Hd.mono (hide_grow e) h
  | .bor l o, v, ⟨h1, l', hl, h2⟩ => ⟨h1, l', hl, h2.mono (hide_grow e) (stays_grow tr e _) hl⟩
theorem PsOk.grow {g : Ga} (tr : ∀ a l, om a = some l → ∃ o, H a = some o) (e : Same H H') : ∀ {p : List P} {v : List V}, PsOk g om H p v → PsOk g om H' p v
  | [], v, h => h
  | p :: ps, v, ⟨x, r, h1, h2, h3⟩ => ⟨x, r, h1, h2.grow tr e, PsOk.grow tr e h3⟩
theorem PsOk.len {g : Ga} : ∀ {p : List P} {v : List V}, PsOk g om H p v → p.length = v.length
  | [], v, h => by rw [show v = [] from h]; rfl
  | p :: ps, v, ⟨x, r, h1, h2, h3⟩ => by rw [h1]; simp [PsOk.len h3]
/-- an operand that is a list: its items -/
def P.lst? : P → Option (List D)
  | .fz (.lst ds) => some ds
  | .bor _ (.lst ds) => some ds
  | _ => none
def P.tup? : P → Option (List D)
  | .fz (.tup ds) => some ds
  | _ => none
def P.int? : P → Option Int
  | .fz (.int i) => some i
  | _ => none
def P.bl? : P → Option Bool
  | .fz (.bl i) => some i
  | _ => none
def P.str? : P → Option Str
  | .fz (.str i) => some i
  | _ => none
def P.d? : P → Option D
  | .fz d => some d
  | _ => none
theorem POk.lst {g : Ga} {p : P} {v : V} {ds : List D} (h : POk g om H p v) (e : p.lst? = some ds) : ∃ a xs, v = .ref a ∧ H a = some (.lst xs) ∧ Hds g (hide om H) ds xs := by
  cases p with
  | fz d =>
    cases d <;> simp [P.lst?] at e
    subst e
    simp only [POk, Hd] at h
    obtain ⟨a, xs, h1, h2, h3⟩ := h
    exact ⟨a, xs, h1, hide_same _ _ h2, h3⟩
  | bor l o =>
    cases o <;> simp [P.lst?] at e
    subst e
    obtain ⟨_, _, _, a, xs, h1, _, h2, h3⟩ := h
    exact ⟨a, xs, h1, h2, h3⟩
theorem POk.tup {g : Ga} {p : P} {v : V} {ds : List D} (h : POk g om H p v) (e : p.tup? = some ds) : ∃ a xs, v = .ref a ∧ H a = some (.tup xs) ∧ Hds g (hide om H) ds xs := by
  cases p with
  | fz d =>
    cases d <;> simp [P.tup?] at e
    subst e
    simp only [POk, Hd] at h
    obtain ⟨a, xs, h1, h2, h3⟩ := h
    exact ⟨a, xs, h1, hide_same _ _ h2, h3⟩
  | bor l o => simp [P.tup?] at e
theorem POk.d {g : Ga} {p : P} {v : V} {d : D} (h : POk g om H p v) (e : p.d? = some d) : Hd g (hide om H) d v := by
  cases p with
  | fz d' => simp [P.d?] at e; subst e; exact h
  | bor l o => simp [P.d?] at e
theorem POk.int {g : Ga} {p : P} {v : V} {i : Int} (h : POk g om H p v) (e : p.int? = some i) : v = .int i := by
  cases p with
  | fz d => cases d <;> simp [P.int?] at e; subst e; simpa [POk, Hd] using h
  | bor l o => simp [P.int?] at e
theorem POk.bl {g : Ga} {p : P} {v : V} {i : Bool} (h : POk g om H p v) (e : p.bl? = some i) : v = .bl i := by
  cases p with
  | fz d => cases d <;> simp [P.bl?] at e; subst e; simpa [POk, Hd] using h
  | bor l o => simp [P.bl?] at e
theorem POk.str {g : Ga} {p : P} {v : V} {i : Str} (h : POk g om H p v) (e : p.str? = some i) : v = .str i := by
  cases p with
  | fz d => cases d <;> simp [P.str?] at e; subst e; simpa [POk, Hd] using h
  | bor l o => simp [P.str?] at e
end

/-! ### readings by a mirror -/
def tP (Z : Zc) (W : WX) (m : Env → Res P) : TE := fun σ H Q => ∃ om env, Rel Z om σ H env ∧ Lands (m env) (fun r => ∀ v H', Same H H' → POk Z.g om H' r v → Q v H') (fun x => ∀ c d H', Same H H' → ExOk Z.g om H' x c d → W c d σ H')
def tO (Z : Zc) (W : WX) (m : Env → Res R) : TE := fun σ H Q => ∃ om env, Rel Z om σ H env ∧ Lands (m env) (fun r => ∀ v om' H', New om H om' H' → ROk Z.g om' H' r v → Q v H') (fun x => ∀ c d H', Same H H' → ExOk Z.g om H' x c d → W c d σ H')
def tB (Z : Zc) (W : WX) (m : Env → Res Bool) : TT := fun σ H Q => ∃ om env, Rel Z om σ H env ∧ Lands (m env) (fun b => ∀ H', Same H H' → Q b H') (fun x => ∀ c d H', Same H H' → ExOk Z.g om H' x c d → W c d σ H')
def tA (Z : Zc) (W : WX) (m : Env → Res (List P)) : TA := fun σ H Q => ∃ om env, Rel Z om σ H env ∧ Lands (m env) (fun r => ∀ vs H', Same H H' → PsOk Z.g om H' r vs → Q vs H') (fun x => ∀ c d H', Same H H' → ExOk Z.g om H' x c d → W c d σ H')

theorem _root_.L2.PE.pimp {X : Cx} {e : Expr} {t t' : TE} (h : PE X e t) (i : ∀ σ H Q, t' σ H Q → t σ H Q) : PE X e t' := ⟨fun pins s σ H Q I q => h.run pins s σ H Q I (i σ H Q q)⟩
theorem _root_.L2.PT.pimp {X : Cx} {e : Expr} {t t' : TT} (h : PT X e t) (i : ∀ σ H Q, t' σ H Q → t σ H Q) : PT X e t' := ⟨fun pins s σ H Q I q => h.run pins s σ H Q I (i σ H Q q)⟩
theorem _root_.L2.PA.pimp {X : Cx} {e : List Expr} {t t' : TA} (h : PA X e t) (i : ∀ σ H Q, t' σ H Q → t σ H Q) : PA X e t' := ⟨fun p pins s σ H Q I q => h.run p pins s σ H Q I (i σ H Q q)⟩
theorem _root_.L2.PS.pimp {X : Cx} {e : Stmt} {t t' : TS} (h : PS X e t) (i : ∀ D σ H, t' D σ H → t D σ H) : PS X e t' := ⟨fun pins s σ H D I q => h.run pins s σ H D I (i D σ H q)⟩
theorem _root_.L2.PSs.pimp {X : Cx} {e : List Stmt} {t t' : TS} (h : PSs X e t) (i : ∀ D σ H, t' D σ H → t D σ H) : PSs X e t' := ⟨fun pins s σ H D I q => h.run pins s σ H D I (i D σ H q)⟩

section
variable {X : Cx} {Z : Zc} {W : WX} {e a b : Expr} {pos : Pos}

def mOp (m : Env → Res R) : Env → Res P := fun env => (m env).map R.op
def mUp (m : Env → Res P) : Env → Res R := fun env => (m env).map P.r
theorem op_imp {m : Env → Res R} : ∀ σ H Q, tP Z W (mOp m) σ H Q → tO Z W m σ H Q := fun σ H Q ⟨om, env, r, q⟩ => by
  refine ⟨om, env, r, ?_⟩
  unfold mOp at q
  cases hm : m env with
  | stuck => rw [hm] at q; exact q
  | rs x => rw [hm] at q; exact q
  | ok x =>
    rw [hm] at q
    intro v om' H' n ro
    refine q v H' n.ex ?_
    cases x with
    | fz d => exact Hd.mono n.back ro
    | tmp o =>
      refine Own.cold (r := .tmp) n.back (fun a l h1 h2 => ⟨?_, rfl⟩) rfl ro
      rcases n.new a l h1 with z | ⟨z, _⟩
      · exact absurd h2 (r.nt a l z)
      · cases y : om a with
        | none => rfl
        | some l' => obtain ⟨o', y'⟩ := r.tr a l' y; rw [z] at y'; cases y'
    | bor l o =>
      obtain ⟨r1, l0, r2, r3⟩ := ro
      refine ⟨r1, l0, r2, r3.mono n.back (fun a l' h1 h2 => ⟨?_, rfl⟩) r2⟩
      rcases n.new a l' h1 with z | ⟨_, z, _⟩
      · exact z
      · exact absurd (h2.symm.trans z) r1
theorem c_op {m : Env → Res R} (h : PE X e (tO Z W m)) : PE X e (tP Z W (mOp m)) := h.pimp op_imp
theorem c_up {m : Env → Res P} (h : PE X e (tP Z W m)) : PE X e (tO Z W (mUp m)) := h.pimp fun σ H Q ⟨om, env, r, q⟩ => by
  refine ⟨om, env, r, ?_⟩
  unfold mUp at q
  cases hm : m env with
  | stuck => rw [hm] at q; exact q
  | rs x => rw [hm] at q; exact q
  | ok x =>
    rw [hm] at q
    intro v H' n ro
    refine q v om H' (.same n) ?_
    cases x with
    | fz d => exact ro
    | bor l o => exact ro

/-! names, constants -/
def mVar (i : Nat) : Env → Res P := fun env => match env[i]? with
  | some (.fz d) => .ok (.fz d)
  | some (.rd o) => .ok (.bor .amb o)
  | some (.ow o) => .ok (.bor (.slot i) o)
  | some (.mu o) => .ok (.bor (.slot i) o)
  | _ => .stuck
theorem r_var {i : Nat} {x : Str} (h : PE X (.Name x pos) (tVar i)) : PE X (.Name x pos) (tP Z W (mVar i)) := h.pimp fun σ H Q ⟨om, env, r, q⟩ => by
  unfold mVar at q
  cases he : env[i]? with
  | none => rw [he] at q; exact q.elim
  | some s =>
    rw [he] at q
    have h1 := r.sl i s he
    cases s with
    | un => exact q.elim
    | pin v => exact q.elim
    | fz d => obtain ⟨v, h2, h3⟩ := h1; exact ⟨v, h2, q v H (Same.refl _) h3⟩
    | rd o => obtain ⟨v, l, h2, hl, h3⟩ := h1; exact ⟨v, h2, q v H (Same.refl _) ⟨(nomatch ·), l, hl, h3⟩⟩
    | ow o => obtain ⟨v, h2, h3⟩ := h1; exact ⟨v, h2, q v H (Same.refl _) ⟨(nomatch ·), _, rfl, h3⟩⟩
    | mu o => obtain ⟨v, h2, h3⟩ := h1; exact ⟨v, h2, q v H (Same.refl _) ⟨(nomatch ·), _, rfl, h3⟩⟩
def mC (d : D) : Env → Res P := fun _ => .ok (.fz d)
theorem r_c {v : V} {d : D} (h : PE X e (tC v)) (hd : ∀ H, Hd Z.g H d v) : PE X e (tP Z W (mC d)) := h.pimp fun σ H Q ⟨om, env, r, q⟩ => q v H (Same.refl _) (hd _)
theorem r_int {i : Int} {j : Nat} : PE X (.Constant (.int i) j pos) (tP Z W (mC (.int i))) := r_c pe_int fun _ => by unfold Hd; rfl
theorem r_bl {i : Bool} {j : Nat} : PE X (.Constant (.bool i) j pos) (tP Z W (mC (.bl i))) := r_c pe_bl fun _ => by unfold Hd; rfl
theorem r_str {i : Str} {j : Nat} : PE X (.Constant (.str i) j pos) (tP Z W (mC (.str i))) := r_c pe_str fun _ => by unfold Hd; rfl
theorem r_non {j : Nat} : PE X (.Constant .none j pos) (tP Z W (mC .non)) := r_c pe_non fun _ => by unfold Hd; rfl
/-- a module's number -/
theorem r_globI {x : Str} {i : Int} {tk : Tok} (hg : Gl X x) (hm : X.mg x = some (.int i tk)) (hd : (x == ("__debug__" : Str)) = false := by decide) : PE X (.Name x pos) (tP Z W (mC (.int i))) := r_c (pe_glob (v := .int i) hg hm ⟨_, rfl⟩ hd) fun _ => by unfold Hd; rfl
theorem r_globS {x : Str} {i : Str} {tk : Tok} (hg : Gl X x) (hm : X.mg x = some (.str i tk)) (hd : (x == ("__debug__" : Str)) = false := by decide) : PE X (.Name x pos) (tP Z W (mC (.str i))) := r_c (pe_glob (v := .str i) hg hm ⟨_, rfl⟩ hd) fun _ => by unfold Hd; rfl

/-! two operands -/
def m2 {α : Type} (k : P → P → Option α) (ma mb : Env → Res P) : Env → Res α := fun env => (ma env).bind fun x => (mb env).bind fun y => .of (k x y)
/-- two operands evaluated, then a rule on values -/
theorem two {ma mb : Env → Res P} {σ : L2.St} {H : Hp} {om : Om} {env : Env} {α : Type} {k : P → P → Option α} {B : α → Hp → Prop} {T : V → V → Hp → Prop} (r : Rel Z om σ H env)
    (q : Lands (m2 k ma mb env) (fun z => ∀ H', Same H H' → B z H') (fun x => ∀ c d H', Same H H' → ExOk Z.g om H' x c d → W c d σ H'))
    (f : ∀ x y v u H', Same H H' → Rel Z om σ H' env → POk Z.g om H' x v → POk Z.g om H' y u → ∀ z, k x y = some z → (∀ H'', Same H' H'' → B z H'') → T v u H') :
    tP Z W ma σ H fun v H1 => tP Z W mb σ H1 fun u H2 => T v u H2 := by
  unfold m2 at q
  refine ⟨om, env, r, ?_⟩
  cases ha : ma env with
  | stuck => rw [ha] at q; exact q
  | rs x => rw [ha] at q; exact q
  | ok x =>
    rw [ha] at q
    simp only [Res.bind] at q
    intro v H1 e1 p1
    refine ⟨om, env, r.grow e1, ?_⟩
    cases hb : mb env with
    | stuck => rw [hb] at q; exact q
    | rs x => rw [hb] at q; exact fun c d H' e2 => q c d H' (e1.trans e2)
    | ok y =>
      rw [hb] at q
      simp only [Res.bind] at q
      intro u H2 e2 p2
      cases hk : k x y with
      | none => rw [hk] at q; exact q.elim
      | some z =>
        rw [hk] at q
        simp only [Res.of] at q
        exact f x y v u H2 (e1.trans e2) (r.grow (e1.trans e2)) (p1.grow (r.grow e1).tr e2) p2 z hk fun H'' e3 => q H'' ((e1.trans e2).trans e3)
def one1 {α : Type} (k : P → Option α) (ma : Env → Res P) : Env → Res α := fun env => (ma env).bind fun x => .of (k x)
theorem one {ma : Env → Res P} {σ : L2.St} {H : Hp} {om : Om} {env : Env} {α : Type} {k : P → Option α} {B : α → Hp → Prop} {T : V → Hp → Prop} (r : Rel Z om σ H env)
    (q : Lands (one1 k ma env) (fun z => ∀ H', Same H H' → B z H') (fun x => ∀ c d H', Same H H' → ExOk Z.g om H' x c d → W c d σ H'))
    (f : ∀ x v H', Same H H' → Rel Z om σ H' env → POk Z.g om H' x v → ∀ z, k x = some z → (∀ H'', Same H' H'' → B z H'') → T v H') :
    tP Z W ma σ H fun v H1 => T v H1 := by
  unfold one1 at q
  refine ⟨om, env, r, ?_⟩
  cases ha : ma env with
  | stuck => rw [ha] at q; exact q
  | rs x => rw [ha] at q; exact q
  | ok x =>
    rw [ha] at q
    simp only [Res.bind] at q
    intro v H1 e1 p1
    cases hk : k x with
    | none => rw [hk] at q; exact q.elim
    | some z =>
      rw [hk] at q
      simp only [Res.of] at q
      exact f x v H1 e1 (r.grow e1) p1 z hk fun H'' e3 => q H'' (e1.trans e3)
/-- the answer as an operand -/
theorem q_fz {α : Type} {m : Env → Res α} {mk : α → D} {σ : L2.St} {H : Hp} {om : Om} {env : Env} {Q : VK} (q : Lands (((m env).map fun z => P.fz (mk z))) (fun r => ∀ v H', Same H H' → POk Z.g om H' r v → Q v H') (fun x => ∀ c d H', Same H H' → ExOk Z.g om H' x c d → W c d σ H')) : Lands (m env) (fun z => ∀ H', Same H H' → ∀ v, Hd Z.g (hide om H') (mk z) v → Q v H') (fun x => ∀ c d H', Same H H' → ExOk Z.g om H' x c d → W c d σ H') := by
  cases h : m env with
  | stuck => rw [h] at q; exact q
  | rs x => rw [h] at q; exact q
  | ok z => rw [h] at q; exact fun H' e v hv => q v H' e hv

/-! ints -/
def kI {α : Type} (f : Int → Int → Option α) : P → P → Option α := fun x y => match x.int?, y.int? with
  | some i, some j => f i j
  | _, _ => none
theorem kI_some {α : Type} {f : Int → Int → Option α} {x y : P} {z : α} (h : kI f x y = some z) : ∃ i j, x.int? = some i ∧ y.int? = some j ∧ f i j = some z := by
  unfold kI at h
  split at h
  · rename_i i j h1 h2; exact ⟨i, j, h1, h2, h⟩
  · cases h
def mI (f : Int → Int → Option Int) (ma mb : Env → Res P) : Env → Res P := fun env => (m2 (kI f) ma mb env).map fun z => .fz (.int z)
theorem r_I {op : Operator} {r : R2} {f : Int → Int → Option Int} {ma mb : Env → Res P} (ho : OpR X (binaryOp op) r) (hr : ∀ i j z H (Q : VK), f i j = some z → Q (.int z) H → r (.int i) (.int j) H Q)
    (ha : PE X a (tP Z W ma)) (hb : PE X b (tP Z W mb)) : PE X (.BinOp a op b pos) (tP Z W (mI f ma mb)) := (pe_op ho ha hb).pimp fun σ H Q ⟨om, env, rl, q⟩ => by
  refine two rl (q_fz q) fun x y v u H' e rl' p1 p2 z hk qz => ?_
  obtain ⟨i, j, h1, h2, h3⟩ := kI_some hk
  rw [p1.int h1, p2.int h2]
  exact hr i j z H' Q h3 (qz H' (Same.refl _) _ (by unfold Hd; rfl))
def iAdd (i j : Int) : Option Int := some (i + j)
def iSub (i j : Int) : Option Int := some (i - j)
instance (i j : Int) : Decidable (CMul i j) := by unfold CMul; infer_instance
instance (i j : Int) : Decidable (CDiv i j) := by unfold CDiv; infer_instance
def iMul (i j : Int) : Option Int := if (-18446744073709551616 < i ∧ i < 18446744073709551616) ∨ (-18446744073709551616 < j ∧ j < 18446744073709551616) then some (i * j) else none
def iDiv (i j : Int) : Option Int := if 0 < j ∧ j < 1073741824 then some (i / j) else none
def iMod (i j : Int) : Option Int := if 0 < j then some (i % j) else none
end
end RC

set_option Elab.async false
set_option linter.all false
set_option maxRecDepth 100000
set_option maxHeartbeats 2000000
/-! R3: operators, comparisons, tests, items, slices, displays. -/
namespace RC
open PySem PySem.Spec PyProof.Rows L2

structure Kx (X : Cx) (Z : Zc) (W : WX) : Prop where
  gK : Z.g.K = X.K
  gm : Z.g.mg = X.mg
  calm : Z.hot = false → X.calm = true
  hu : X.A.units + 64 < cLine
  esc : ∀ σ, PassesAt (L2.CX X.prog X.w) X σ (WE W σ)
  nd : X.N.Nodup

section
variable {X : Cx} {Z : Zc} {W : WX} {e a b c : Expr} {pos p2 : Pos} {ma mb : RC.Env → Res P}

def kI1 {α : Type} (f : Int → Option α) : P → Option α := fun x => match x.int? with
  | some i => f i
  | none => none
theorem kI1_some {α : Type} {f : Int → Option α} {x : P} {z : α} (h : kI1 f x = some z) : ∃ i, x.int? = some i ∧ f i = some z := by
  unfold kI1 at h
  split at h
  · rename_i i h1; exact ⟨i, h1, h⟩
  · cases h
def iPow (i j : Int) : Option Int := if 0 ≤ j ∧ j ≤ 1000000 ∧ i.natAbs < 18446744073709551616 then some (i ^ j.toNat) else none
def iNeg (i : Int) : Option Int := some (-i)
theorem r_add (ha : PE X a (tP Z W ma)) (hb : PE X b (tP Z W mb)) : PE X (.BinOp a .Add b pos) (tP Z W (mI iAdd ma mb)) :=
  r_I op_add (fun i j z H Q h q => by cases h; exact ⟨i, j, rfl, rfl, q⟩) ha hb
theorem r_sub (ha : PE X a (tP Z W ma)) (hb : PE X b (tP Z W mb)) : PE X (.BinOp a .Sub b pos) (tP Z W (mI iSub ma mb)) :=
  r_I op_sub (fun i j z H Q h q => by cases h; exact ⟨i, j, rfl, rfl, q⟩) ha hb
theorem r_mul (ha : PE X a (tP Z W ma)) (hb : PE X b (tP Z W mb)) : PE X (.BinOp a .Mult b pos) (tP Z W (mI iMul ma mb)) :=
  r_I op_mul (fun i j z H Q h q => by unfold iMul at h; split at h <;> cases h; rename_i hc; exact ⟨i, j, rfl, rfl, hc, q⟩) ha hb
theorem r_div (ha : PE X a (tP Z W ma)) (hb : PE X b (tP Z W mb)) : PE X (.BinOp a .FloorDiv b pos) (tP Z W (mI iDiv ma mb)) :=
  r_I op_fdiv (fun i j z H Q h q => by unfold iDiv at h; split at h <;> cases h; rename_i hc; exact ⟨i, j, rfl, rfl, hc, q⟩) ha hb
theorem r_mod (ha : PE X a (tP Z W ma)) (hb : PE X b (tP Z W mb)) : PE X (.BinOp a .Mod b pos) (tP Z W (mI iMod ma mb)) :=
  r_I op_mod (fun i j z H Q h q => by unfold iMod at h; split at h <;> cases h; rename_i hc; exact ⟨i, j, rfl, rfl, hc, q⟩) ha hb
theorem r_pow (ha : PE X a (tP Z W ma)) (hb : PE X b (tP Z W mb)) : PE X (.BinOp a .Pow b pos) (tP Z W (mI iPow ma mb)) :=
  r_I op_pow (fun i j z H Q h q => by unfold iPow at h; split at h <;> cases h; rename_i hc; exact ⟨i, j, rfl, rfl, hc, q⟩) ha hb
def mNeg (ma : RC.Env → Res P) : RC.Env → Res P := fun env => (one1 (kI1 iNeg) ma env).map fun z => .fz (.int z)
theorem r_neg (ha : PE X a (tP Z W ma)) : PE X (.UnaryOp .USub a pos) (tP Z W (mNeg ma)) := (pe_un un_neg ha).pimp fun σ H Q ⟨om, env, rl, q⟩ => by
  refine one rl (q_fz q) fun x v H' e rl' p1 z hk qz => ?_
  obtain ⟨i, h1, h2⟩ := kI1_some hk
  rw [p1.int h1]
  cases h2
  exact ⟨i, rfl, qz H' (Same.refl _) _ (by unfold Hd; rfl)⟩

/-! comparisons: as tests, as values -/
def mBl (m : RC.Env → Res Bool) : RC.Env → Res P := fun env => (m env).map fun z => .fz (.bl z)
theorem t_cmp {op : CmpOp} {r : R2} {k : P → P → Option Bool} (ho : OpR X (compareOp op) r) (hm : behindInMarks op b = false)
    (hr : ∀ om H x y v u z (Q : VK), POk Z.g om H x v → POk Z.g om H y u → k x y = some z → Q (.bl z) H → r v u H Q)
    (ha : PE X a (tP Z W ma)) (hb : PE X b (tP Z W mb)) : PT X (.Compare a [op] [b] pos) (tB Z W (m2 k ma mb)) := (pt_cmpR ho ha hb hm).pimp fun σ H Q ⟨om, env, rl, q⟩ => by
  refine two (k := k) (B := Q) (T := fun v u H' => r v u H' fun x H' => ∃ k, x = .bl k ∧ Q k H') rl q fun x y v u H' e rl' p1 p2 z hk qz => ?_
  exact hr om H' x y v u z _ p1 p2 hk ⟨z, rfl, qz H' (Same.refl _)⟩
theorem v_cmp {op : CmpOp} {r : R2} {k : P → P → Option Bool} (ho : OpR X (compareOp op) r) (hm : behindInMarks op b = false)
    (hr : ∀ om H x y v u z (Q : VK), POk Z.g om H x v → POk Z.g om H y u → k x y = some z → Q (.bl z) H → r v u H Q)
    (ha : PE X a (tP Z W ma)) (hb : PE X b (tP Z W mb)) : PE X (.Compare a [op] [b] pos) (tP Z W (mBl (m2 k ma mb))) := (pe_cmpR ho ha hb hm).pimp fun σ H Q ⟨om, env, rl, q⟩ => by
  refine two rl (q_fz q) fun x y v u H' e rl' p1 p2 z hk qz => ?_
  exact hr om H' x y v u z _ p1 p2 hk (qz H' (Same.refl _) _ (by unfold Hd; rfl))
def kLt : P → P → Option Bool := kI fun i j => some (decide (i < j))
def kLe : P → P → Option Bool := kI fun i j => some (decide (i ≤ j))
def kGt : P → P → Option Bool := kI fun i j => some (decide (j < i))
def kGe : P → P → Option Bool := kI fun i j => some (decide (j ≤ i))
theorem cmpI {f : Int → Int → Bool} : ∀ om H x y v u z (Q : VK), POk Z.g om H x v → POk Z.g om H y u → kI (fun i j => some (f i j)) x y = some z → Q (.bl z) H → rI0 (fun i j => .bl (f i j)) v u H Q := fun om H x y v u z Q p1 p2 hk q => by
  obtain ⟨i, j, h1, h2, h3⟩ := kI_some hk
  cases h3
  exact ⟨i, j, p1.int h1, p2.int h2, q⟩
theorem t_lt (ha : PE X a (tP Z W ma)) (hb : PE X b (tP Z W mb)) : PT X (.Compare a [.Lt] [b] pos) (tB Z W (m2 kLt ma mb)) := t_cmp op_lt (nomark _) cmpI ha hb
theorem t_le (ha : PE X a (tP Z W ma)) (hb : PE X b (tP Z W mb)) : PT X (.Compare a [.LtE] [b] pos) (tB Z W (m2 kLe ma mb)) := t_cmp op_le (nomark _) cmpI ha hb
theorem t_gt (ha : PE X a (tP Z W ma)) (hb : PE X b (tP Z W mb)) : PT X (.Compare a [.Gt] [b] pos) (tB Z W (m2 kGt ma mb)) := t_cmp op_gt (nomark _) cmpI ha hb
theorem t_ge (ha : PE X a (tP Z W ma)) (hb : PE X b (tP Z W mb)) : PT X (.Compare a [.GtE] [b] pos) (tB Z W (m2 kGe ma mb)) := t_cmp op_ge (nomark _) cmpI ha hb
theorem v_lt (ha : PE X a (tP Z W ma)) (hb : PE X b (tP Z W mb)) : PE X (.Compare a [.Lt] [b] pos) (tP Z W (mBl (m2 kLt ma mb))) := v_cmp op_lt (nomark _) cmpI ha hb
theorem v_le (ha : PE X a (tP Z W ma)) (hb : PE X b (tP Z W mb)) : PE X (.Compare a [.LtE] [b] pos) (tP Z W (mBl (m2 kLe ma mb))) := v_cmp op_le (nomark _) cmpI ha hb
theorem v_gt (ha : PE X a (tP Z W ma)) (hb : PE X b (tP Z W mb)) : PE X (.Compare a [.Gt] [b] pos) (tP Z W (mBl (m2 kGt ma mb))) := v_cmp op_gt (nomark _) cmpI ha hb
theorem v_ge (ha : PE X a (tP Z W ma)) (hb : PE X b (tP Z W mb)) : PE X (.Compare a [.GtE] [b] pos) (tP Z W (mBl (m2 kGe ma mb))) := v_cmp op_ge (nomark _) cmpI ha hb

/-! == of data -/
mutual
def D.pd : D → Option PyData
  | .non => some .none
  | .bl b => some (.bool b)
  | .int i => some (.int i)
  | .str x => some (.str x)
  | .tup ds => match pds ds with
    | some ps => some (.tuple ps)
    | none => none
  | .lst ds => match pds ds with
    | some ps => some (.list ps)
    | none => none
  | .dct _ => none
  | .obj _ _ => none
  | .scr _ => none
def pds : List D → Option (List PyData)
  | [] => some []
  | d :: ds => match d.pd, pds ds with
    | some p, some ps => some (p :: ps)
    | _, _ => none
end
mutual
theorem D.dp {g : Ga} {H : Hp} : ∀ {d : D} {v : V} {p : PyData}, Hd g H d v → d.pd = some p → Dp g.K H v p
  | .non, v, p, h, e => by simp only [Hd] at h; simp only [D.pd, Option.some.injEq] at e; subst h e; exact .non
  | .bl b, v, p, h, e => by simp only [Hd] at h; simp only [D.pd, Option.some.injEq] at e; subst h e; exact .bl b
  | .int b, v, p, h, e => by simp only [Hd] at h; simp only [D.pd, Option.some.injEq] at e; subst h e; exact .int b
  | .str b, v, p, h, e => by simp only [Hd] at h; simp only [D.pd, Option.some.injEq] at e; subst h e; exact .str b
  | .tup ds, v, p, h, e => by
    simp only [Hd] at h
    obtain ⟨a, xs, rfl, h1, h2⟩ := h
    unfold D.pd at e
    split at e
    · rename_i ps hp
      cases e
      exact .tup (SqT.of h1) (pds_dp h2 hp)
    · cases e
  | .lst ds, v, p, h, e => by
    simp only [Hd] at h
    obtain ⟨a, xs, rfl, h1, h2⟩ := h
    unfold D.pd at e
    split at e
    · rename_i ps hp
      cases e
      exact .lst (SqL.of h1) (pds_dp h2 hp)
    · cases e
  | .dct _, v, p, h, e => by simp [D.pd] at e
  | .obj _ _, v, p, h, e => by simp [D.pd] at e
  | .scr _, v, p, h, e => by simp [D.pd] at e
theorem pds_dp {g : Ga} {H : Hp} : ∀ {ds : List D} {xs : List V} {ps : List PyData}, Hds g H ds xs → pds ds = some ps → DpAll g.K H xs ps
  | [], xs, ps, h, e => by unfold Hds at h; simp only [pds, Option.some.injEq] at e; subst h e; exact .nil
  | d :: ds, xs, ps, h, e => by
    unfold Hds at h
    obtain ⟨v, vs, rfl, h1, h2⟩ := h
    unfold pds at e
    split at e
    · rename_i p ps' hp hps
      cases e
      exact .cons (D.dp h1 hp) (pds_dp h2 hps)
    · cases e
end
def P.pd : P → Option PyData
  | .fz d => d.pd
  | .bor _ (.lst ds) => D.pd (.lst ds)
  | .bor _ _ => none
theorem POk.dp {g : Ga} {om : Om} {H : Hp} {x : P} {v : V} {p : PyData} (h : POk g om H x v) (e : x.pd = some p) : Dp g.K H v p := by
  cases x with
  | fz d => exact D.dp (Hd.mono hide_same h) e
  | bor l o =>
    cases o with
    | lst ds =>
      obtain ⟨_, _, _, a, xs, h1, _, h2, h3⟩ := h
      refine D.dp (d := .lst ds) ?_ e
      unfold Hd
      exact ⟨a, xs, h1, h2, h3.mono hide_same⟩
    | dct _ => simp [P.pd] at e
    | obj _ _ => simp [P.pd] at e
def kEq (x y : P) : Option Bool := match x.pd, y.pd with
  | some d, some e => if SeqAt.shaped d = true ∧ SeqAt.shaped e = true then some (PyData.eqv d e) else none
  | _, _ => none
def kNe (x y : P) : Option Bool := (kEq x y).map Bool.not
theorem kEq_some {x y : P} {z : Bool} (h : kEq x y = some z) : ∃ d e, x.pd = some d ∧ y.pd = some e ∧ SeqAt.shaped d = true ∧ SeqAt.shaped e = true ∧ PyData.eqv d e = z := by
  unfold kEq at h
  split at h
  · rename_i d e h1 h2
    split at h
    · rename_i h3
      exact ⟨d, e, h1, h2, h3.1, h3.2, by simpa using h⟩
    · cases h
  · cases h
theorem cmpEq (kx : Kx X Z W) : ∀ om H x y v u z (Q : VK), POk Z.g om H x v → POk Z.g om H y u → kEq x y = some z → Q (.bl z) H → rEqD X.K v u H Q := fun om H x y v u z Q p1 p2 hk q => by
  obtain ⟨d, e, h1, h2, h3, h4, h5⟩ := kEq_some hk
  subst h5
  rw [← kx.gK]
  exact ⟨d, e, p1.dp h1, p2.dp h2, h3, h4, q⟩
theorem cmpNe (kx : Kx X Z W) : ∀ om H x y v u z (Q : VK), POk Z.g om H x v → POk Z.g om H y u → kNe x y = some z → Q (.bl z) H → rNeD X.K v u H Q := fun om H x y v u z Q p1 p2 hk q => by
  unfold kNe at hk
  cases hk' : kEq x y with
  | none => rw [hk'] at hk; cases hk
  | some z' =>
    rw [hk'] at hk
    cases hk
    obtain ⟨d, e, h1, h2, h3, h4, h5⟩ := kEq_some hk'
    subst h5
    rw [← kx.gK]
    exact ⟨d, e, p1.dp h1, p2.dp h2, h3, h4, q⟩
theorem t_eq (kx : Kx X Z W) (ha : PE X a (tP Z W ma)) (hb : PE X b (tP Z W mb)) : PT X (.Compare a [.Eq] [b] pos) (tB Z W (m2 kEq ma mb)) := t_cmp (op_eqD kx.hu) (nomark _) (cmpEq kx) ha hb
theorem v_eq (kx : Kx X Z W) (ha : PE X a (tP Z W ma)) (hb : PE X b (tP Z W mb)) : PE X (.Compare a [.Eq] [b] pos) (tP Z W (mBl (m2 kEq ma mb))) := v_cmp (op_eqD kx.hu) (nomark _) (cmpEq kx) ha hb
theorem t_ne (kx : Kx X Z W) (ha : PE X a (tP Z W ma)) (hb : PE X b (tP Z W mb)) : PT X (.Compare a [.NotEq] [b] pos) (tB Z W (m2 kNe ma mb)) := t_cmp (op_neD kx.hu) (nomark _) (cmpNe kx) ha hb
theorem v_ne (kx : Kx X Z W) (ha : PE X a (tP Z W ma)) (hb : PE X b (tP Z W mb)) : PE X (.Compare a [.NotEq] [b] pos) (tP Z W (mBl (m2 kNe ma mb))) := v_cmp (op_neD kx.hu) (nomark _) (cmpNe kx) ha hb

/-! in -/
def D.fv : D → Option V
  | .non => some .non
  | .bl b => some (.bl b)
  | .int i => some (.int i)
  | .str x => some (.str x)
  | _ => none
def fvs : List D → Option (List V)
  | [] => some []
  | d :: ds => match d.fv, fvs ds with
    | some p, some ps => some (p :: ps)
    | _, _ => none
theorem D.fv_ok {g : Ga} {H : Hp} {d : D} {v w : V} (h : Hd g H d v) (e : d.fv = some w) : v = w ∧ flatV w = true := by
  cases d <;> simp only [D.fv, Option.some.injEq, reduceCtorEq] at e <;> subst e <;> simp only [Hd] at h <;> exact ⟨h, rfl⟩
theorem fvs_ok {g : Ga} {H : Hp} : ∀ {ds : List D} {vs ws : List V}, Hds g H ds vs → fvs ds = some ws → vs = ws ∧ ws.all flatV = true
  | [], vs, ws, h, e => by unfold Hds at h; simp only [fvs, Option.some.injEq] at e; subst h e; exact ⟨rfl, rfl⟩
  | d :: ds, vs, ws, h, e => by
    unfold Hds at h
    obtain ⟨v, r, rfl, h1, h2⟩ := h
    unfold fvs at e
    split at e
    · rename_i p ps hp hps
      cases e
      obtain ⟨e1, f1⟩ := D.fv_ok h1 hp
      obtain ⟨e2, f2⟩ := fvs_ok h2 hps
      subst e1 e2
      exact ⟨rfl, by simp [f1, f2]⟩
    · cases e
def P.seq? (p : P) : Option (List D) := match p.lst? with
  | some ds => some ds
  | none => p.tup?
theorem POk.seq {g : Ga} {om : Om} {H : Hp} {p : P} {v : V} {ds : List D} (h : POk g om H p v) (e : p.seq? = some ds) : ∃ a xs, v = .ref a ∧ (SqL g.K H a xs ∨ SqT g.K H a xs) ∧ Hds g (hide om H) ds xs := by
  unfold P.seq? at e
  split at e
  · rename_i ds' h1
    cases e
    obtain ⟨a, xs, e1, e2, e3⟩ := h.lst h1
    exact ⟨a, xs, e1, .inl (SqL.of e2), e3⟩
  · obtain ⟨a, xs, e1, e2, e3⟩ := h.tup e
    exact ⟨a, xs, e1, .inr (SqT.of e2), e3⟩
def kIn (x y : P) : Option Bool := match x.d?, y.seq? with
  | some d, some ds => match d.fv, fvs ds with
    | some v, some vs => some (inV v vs)
    | _, _ => none
  | _, _ => none
def kNi (x y : P) : Option Bool := (kIn x y).map Bool.not
theorem kIn_some {x y : P} {z : Bool} (h : kIn x y = some z) : ∃ d ds v vs, x.d? = some d ∧ y.seq? = some ds ∧ d.fv = some v ∧ fvs ds = some vs ∧ inV v vs = z := by
  unfold kIn at h
  split at h
  · rename_i d ds h1 h2
    split at h
    · rename_i v vs h3 h4
      exact ⟨d, ds, v, vs, h1, h2, h3, h4, by simpa using h⟩
    · cases h
  · cases h
theorem cmpIn {neg : Bool} (kx : Kx X Z W) : ∀ om H x y v u z (Q : VK), POk Z.g om H x v → POk Z.g om H y u → kIn x y = some z → Q (.bl (if neg then !z else z)) H → rIn X.K neg v u H Q := fun om H x y v u z Q p1 p2 hk q => by
  obtain ⟨d, ds, w, ws, h1, h2, h3, h4, h5⟩ := kIn_some hk
  subst h5
  obtain ⟨e1, f1⟩ := D.fv_ok (p1.d h1) h3
  obtain ⟨p, xs, e2, e3, e4⟩ := p2.seq h2
  obtain ⟨e5, f2⟩ := fvs_ok e4 h4
  subst e1 e5
  rw [kx.gK] at e3
  exact ⟨p, xs, e2, e3, f1, f2, q⟩
theorem t_in (kx : Kx X Z W) (ha : PE X a (tP Z W ma)) (hb : PE X b (tP Z W mb)) (hm : behindInMarks .In b = false := by rfl) : PT X (.Compare a [.In] [b] pos) (tB Z W (m2 kIn ma mb)) :=
  t_cmp op_in_seq hm (fun om H x y v u z Q p1 p2 hk q => cmpIn (neg := false) kx om H x y v u z Q p1 p2 hk q) ha hb
theorem v_in (kx : Kx X Z W) (ha : PE X a (tP Z W ma)) (hb : PE X b (tP Z W mb)) (hm : behindInMarks .In b = false := by rfl) : PE X (.Compare a [.In] [b] pos) (tP Z W (mBl (m2 kIn ma mb))) :=
  v_cmp op_in_seq hm (fun om H x y v u z Q p1 p2 hk q => cmpIn (neg := false) kx om H x y v u z Q p1 p2 hk q) ha hb
theorem kNi_some {x y : P} {z : Bool} (h : kNi x y = some z) : kIn x y = some (!z) := by
  unfold kNi at h
  cases hk : kIn x y with
  | none => rw [hk] at h; cases h
  | some z' => rw [hk] at h; cases h; simp
theorem t_ni (kx : Kx X Z W) (ha : PE X a (tP Z W ma)) (hb : PE X b (tP Z W mb)) (hm : behindInMarks .NotIn b = false := by rfl) : PT X (.Compare a [.NotIn] [b] pos) (tB Z W (m2 kNi ma mb)) :=
  t_cmp op_notIn_seq hm (fun om H x y v u z Q p1 p2 hk q => cmpIn (neg := true) kx om H x y v u (!z) Q p1 p2 (kNi_some hk) (by simpa using q)) ha hb
theorem v_ni (kx : Kx X Z W) (ha : PE X a (tP Z W ma)) (hb : PE X b (tP Z W mb)) (hm : behindInMarks .NotIn b = false := by rfl) : PE X (.Compare a [.NotIn] [b] pos) (tP Z W (mBl (m2 kNi ma mb))) :=
  v_cmp op_notIn_seq hm (fun om H x y v u z Q p1 p2 hk q => cmpIn (neg := true) kx om H x y v u (!z) Q p1 p2 (kNi_some hk) (by simpa using q)) ha hb

/-! is None -/
def P.isN : P → Option Bool
  | .fz .non => some true
  | .fz _ => some false
  | .bor _ _ => some false
theorem POk.isN {g : Ga} {om : Om} {H : Hp} {p : P} {v : V} {z : Bool} (h : POk g om H p v) (e : p.isN = some z) : decide (v = .non) = z := by
  cases p with
  | fz d =>
    cases d <;> simp only [P.isN, Option.some.injEq] at e <;> subst e <;> simp only [POk, Hd] at h
    · simp [h]
    · simp [h]
    · simp [h]
    · simp [h]
    · obtain ⟨a, xs, h, _⟩ := h; simp [h]
    · obtain ⟨a, xs, h, _⟩ := h; simp [h]
    · obtain ⟨a, xs, h, _⟩ := h; simp [h]
    · obtain ⟨a, _, _, _, h, _⟩ := h; simp [h]
    · obtain ⟨a, h, _⟩ := h; simp [h]
  | bor l o =>
    simp only [P.isN, Option.some.injEq] at e
    subst e
    cases o with
    | lst ds => obtain ⟨_, _, _, a, xs, h, _⟩ := h; simp [h]
    | dct ds => obtain ⟨_, _, _, a, xs, h, _⟩ := h; simp [h]
    | obj n fs => obtain ⟨_, _, _, a, _, _, _, h, _⟩ := h; simp [h]
def kIs (x _y : P) : Option Bool := x.isN
def kIsn (x _y : P) : Option Bool := x.isN.map Bool.not
theorem t_isN {j : Nat} {p3 : Pos} (ha : PE X a (tP Z W ma)) : PT X (.Compare a [.Is] [.Constant .none j p3] pos) (tB Z W (one1 P.isN ma)) :=
  (pt_cmpR op_isN ha pe_non (nomark _)).pimp fun σ H Q ⟨om, env, rl, q⟩ => by
    refine one (k := P.isN) (B := Q) (T := fun v H' => V.non = V.non ∧ ∃ k, V.bl (decide (v = .non)) = .bl k ∧ Q k H') rl q fun x v H' e rl' p1 z hk qz => ?_
    exact ⟨rfl, z, by rw [p1.isN hk], qz H' (Same.refl _)⟩
theorem t_nonN {j : Nat} {p3 : Pos} (ha : PE X a (tP Z W ma)) : PT X (.Compare a [.IsNot] [.Constant .none j p3] pos) (tB Z W (one1 (fun p => p.isN.map Bool.not) ma)) :=
  (pt_cmpR op_notN ha pe_non (nomark _)).pimp fun σ H Q ⟨om, env, rl, q⟩ => by
    refine one (k := fun p => p.isN.map Bool.not) (B := Q) (T := fun v H' => V.non = V.non ∧ ∃ k, V.bl (!decide (v = .non)) = .bl k ∧ Q k H') rl q fun x v H' e rl' p1 z hk qz => ?_
    cases hz : x.isN with
    | none => rw [hz] at hk; cases hk
    | some z' => rw [hz] at hk; cases hk; exact ⟨rfl, _, by rw [p1.isN hz], qz H' (Same.refl _)⟩
theorem v_isN {j : Nat} {p3 : Pos} (ha : PE X a (tP Z W ma)) : PE X (.Compare a [.Is] [.Constant .none j p3] pos) (tP Z W (mBl (one1 P.isN ma))) :=
  (pe_cmpR op_isN ha pe_non (nomark _)).pimp fun σ H Q ⟨om, env, rl, q⟩ => by
    refine one (T := fun v H' => V.non = V.non ∧ Q (.bl (decide (v = .non))) H') rl (q_fz q) fun x v H' e rl' p1 z hk qz => ?_
    exact ⟨rfl, by rw [p1.isN hk]; exact qz H' (Same.refl _) _ (by unfold Hd; rfl)⟩
theorem v_nonN {j : Nat} {p3 : Pos} (ha : PE X a (tP Z W ma)) : PE X (.Compare a [.IsNot] [.Constant .none j p3] pos) (tP Z W (mBl (one1 (fun p => p.isN.map Bool.not) ma))) :=
  (pe_cmpR op_notN ha pe_non (nomark _)).pimp fun σ H Q ⟨om, env, rl, q⟩ => by
    refine one (T := fun v H' => V.non = V.non ∧ Q (.bl (!decide (v = .non))) H') rl (q_fz q) fun x v H' e rl' p1 z hk qz => ?_
    cases hz : x.isN with
    | none => rw [hz] at hk; cases hk
    | some z' => rw [hz] at hk; cases hk; exact ⟨rfl, by rw [p1.isN hz]; exact qz H' (Same.refl _) _ (by unfold Hd; rfl)⟩

/-! and, or, not -/
variable {ta tb : RC.Env → Res Bool} {rest : List Expr}
theorem t_val (h : PE X e (tP Z W ma)) (he : ∀ whole, isTrue e X.env whole = (do let v ← whole; standAt e.pos; holding [v] (truthy v)) := by intro _; rfl) : PT X e (tB Z W (one1 P.bl? ma)) :=
  (pt_val h he).pimp fun σ H Q ⟨om, env, rl, q⟩ => by
    refine one (k := P.bl?) (B := Q) (T := fun v H' => ∃ c, v = .bl c ∧ Q c H') rl q fun x v H' e rl' p1 z hk qz => ?_
    exact ⟨z, p1.bl hk, qz H' (Same.refl _)⟩
def bAnd (ta tb : RC.Env → Res Bool) : RC.Env → Res Bool := fun env => (ta env).bind fun x => if x = true then tb env else .ok false
def bOr (ta tb : RC.Env → Res Bool) : RC.Env → Res Bool := fun env => (ta env).bind fun x => if x = true then .ok true else tb env
def bNot (ta : RC.Env → Res Bool) : RC.Env → Res Bool := fun env => (ta env).map Bool.not
theorem twoB {om : Om} {env : RC.Env} {σ : L2.St} {H : Hp} {Q : Bool → Hp → Prop} {s : Bool} (rl : Rel Z om σ H env) (q : Lands ((ta env).bind fun x => if x = s then tb env else .ok (!s)) (fun b => ∀ H', Same H H' → Q b H') (fun x => ∀ c d H', Same H H' → ExOk Z.g om H' x c d → W c d σ H')) : tB Z W ta σ H fun c H1 => if c = s then tB Z W tb σ H1 Q else Q (!s) H1 := by
  refine ⟨om, env, rl, ?_⟩
  cases ha : ta env with
  | stuck => rw [ha] at q; exact q
  | rs x => rw [ha] at q; exact q
  | ok x =>
    rw [ha] at q
    simp only [Res.bind] at q
    intro H1 e1
    by_cases hx : x = s
    · rw [if_pos hx]
      rw [if_pos hx] at q
      refine ⟨om, env, rl.grow e1, ?_⟩
      cases hb : tb env with
      | stuck => rw [hb] at q; exact q
      | rs x => rw [hb] at q; exact fun c d H' e2 => q c d H' (e1.trans e2)
      | ok y => rw [hb] at q; exact fun H2 e2 => q H2 (e1.trans e2)
    · rw [if_neg hx]
      rw [if_neg hx] at q
      exact q H1 e1
theorem tw_and (ha : PT X a (tB Z W ta)) (hb : PW X (.BoolOp .And (b :: rest) pos) (tB Z W tb)) : PW X (.BoolOp .And (a :: b :: rest) pos) (tB Z W (bAnd ta tb)) :=
  ⟨fun wh pins s σ H Q I ⟨om, env, rl, q⟩ => (pw_and ha hb).run wh pins s σ H Q I (twoB (s := true) rl q)⟩
theorem tw_or (ha : PT X a (tB Z W ta)) (hb : PW X (.BoolOp .Or (b :: rest) pos) (tB Z W tb)) : PW X (.BoolOp .Or (a :: b :: rest) pos) (tB Z W (bOr ta tb)) :=
  ⟨fun wh pins s σ H Q I ⟨om, env, rl, q⟩ => (pw_or ha hb).run wh pins s σ H Q I (by
    have q' : Lands ((ta env).bind fun x => if x = false then tb env else .ok (!false)) (fun b => ∀ H', Same H H' → Q b H') (fun x => ∀ c d H', Same H H' → ExOk Z.g om H' x c d → W c d σ H') := by
      unfold bOr at q
      cases ha : ta env with
      | stuck => rw [ha] at q; exact q
      | rs x => rw [ha] at q; exact q
      | ok x => rw [ha] at q; cases x <;> exact q
    have z := twoB (s := false) rl q'
    obtain ⟨om2, env2, rl2, z⟩ := z
    refine ⟨om2, env2, rl2, ?_⟩
    cases ha : ta env2 with
    | stuck => rw [ha] at z; exact z
    | rs x => rw [ha] at z; exact z
    | ok x =>
      rw [ha] at z
      intro H1 e1
      have z1 := z H1 e1
      cases x
      · rw [if_neg Bool.false_ne_true]; rw [if_pos rfl] at z1; exact z1
      · rw [if_pos rfl]; rw [if_neg (by decide)] at z1; exact z1)⟩
theorem t_not (ha : PT X a (tB Z W ta)) : PT X (.UnaryOp .Not a pos) (tB Z W (bNot ta)) := (pt_not ha).pimp fun σ H Q ⟨om, env, rl, q⟩ => by
  refine ⟨om, env, rl, ?_⟩
  unfold bNot at q
  cases h : ta env with
  | stuck => rw [h] at q; exact q
  | rs x => rw [h] at q; exact q
  | ok x => rw [h] at q; exact q
/-- a and b as a value, a a bool -/
def mAnd (ma mb : RC.Env → Res P) : RC.Env → Res P := fun env => (one1 P.bl? ma env).bind fun x => if x = true then mb env else .ok (.fz (.bl false))
def mOr (ma mb : RC.Env → Res P) : RC.Env → Res P := fun env => (one1 P.bl? ma env).bind fun x => if x = true then .ok (.fz (.bl true)) else mb env
def mNot (ma : RC.Env → Res P) : RC.Env → Res P := fun env => (one1 P.bl? ma env).map fun z => .fz (.bl (!z))
theorem q_if {om : Om} {env : RC.Env} {σ : L2.St} {H : Hp} {Q : VK} {s : Bool} {d : Bool} (rl : Rel Z om σ H env) (q : Lands ((one1 P.bl? ma env).bind fun x => if x = s then mb env else .ok (.fz (.bl d))) (fun r => ∀ v H', Same H H' → POk Z.g om H' r v → Q v H') (fun x => ∀ c d H', Same H H' → ExOk Z.g om H' x c d → W c d σ H')) : tP Z W ma σ H fun x H1 => ∃ c, x = .bl c ∧ if c = s then tP Z W mb σ H1 Q else Q (.bl d) H1 := by
  refine ⟨om, env, rl, ?_⟩
  unfold one1 at q
  cases ha : ma env with
  | stuck => rw [ha] at q; exact q
  | rs x => rw [ha] at q; exact q
  | ok x =>
    rw [ha] at q
    simp only [Res.bind] at q
    intro v H1 e1 p1
    cases hx : x.bl? with
    | none => rw [hx] at q; exact q.elim
    | some c =>
      rw [hx] at q
      simp only [Res.of] at q
      refine ⟨c, p1.bl hx, ?_⟩
      by_cases hc : c = s
      · rw [if_pos hc]
        rw [if_pos hc] at q
        refine ⟨om, env, rl.grow e1, ?_⟩
        cases hb : mb env with
        | stuck => rw [hb] at q; exact q
        | rs x => rw [hb] at q; exact fun c d H' e2 => q c d H' (e1.trans e2)
        | ok y => rw [hb] at q; exact fun v H2 e2 => q v H2 (e1.trans e2)
      · rw [if_neg hc]
        rw [if_neg hc] at q
        exact q _ H1 e1 (by unfold POk Hd; rfl)
theorem r_and (ha : PE X a (tP Z W ma)) (hb : PE X (.BoolOp .And (b :: rest) pos) (tP Z W mb)) : PE X (.BoolOp .And (a :: b :: rest) pos) (tP Z W (mAnd ma mb)) :=
  (pe_and ha hb).pimp fun σ H Q ⟨om, env, rl, q⟩ => q_if (s := true) rl q
theorem r_or (ha : PE X a (tP Z W ma)) (hb : PE X (.BoolOp .Or (b :: rest) pos) (tP Z W mb)) : PE X (.BoolOp .Or (a :: b :: rest) pos) (tP Z W (mOr ma mb)) :=
  (pe_or ha hb).pimp fun σ H Q ⟨om, env, rl, q⟩ => by
    have q' : Lands ((one1 P.bl? ma env).bind fun x => if x = false then mb env else .ok (.fz (.bl true))) (fun r => ∀ v H', Same H H' → POk Z.g om H' r v → Q v H') (fun x => ∀ c d H', Same H H' → ExOk Z.g om H' x c d → W c d σ H') := by
      unfold mOr at q
      cases ha : one1 P.bl? ma env with
      | stuck => rw [ha] at q; exact q
      | rs x => rw [ha] at q; exact q
      | ok x => rw [ha] at q; cases x <;> exact q
    obtain ⟨om2, env2, rl2, z⟩ := q_if (s := false) rl q'
    refine ⟨om2, env2, rl2, ?_⟩
    cases ha : ma env2 with
    | stuck => rw [ha] at z; exact z
    | rs x => rw [ha] at z; exact z
    | ok x =>
      rw [ha] at z
      intro v H1 e1 p1
      obtain ⟨c, hc, z1⟩ := z v H1 e1 p1
      refine ⟨c, hc, ?_⟩
      cases c
      · rw [if_neg Bool.false_ne_true]; rw [if_pos rfl] at z1; exact z1
      · rw [if_pos rfl]; rw [if_neg (by decide)] at z1; exact z1
theorem r_not (ha : PE X a (tP Z W ma)) : PE X (.UnaryOp .Not a pos) (tP Z W (mNot ma)) := (pe_not ha).pimp fun σ H Q ⟨om, env, rl, q⟩ => by
  refine one (T := fun v H' => ∃ c, v = .bl c ∧ Q (.bl (!c)) H') rl (q_fz q) fun x v H' e rl' p1 z hk qz => ?_
  exact ⟨z, p1.bl hk, qz H' (Same.refl _) _ (by unfold Hd; rfl)⟩
/-- a if t else b -/
def mIf (tc : RC.Env → Res Bool) (ma mb : RC.Env → Res P) : RC.Env → Res P := fun env => (tc env).bind fun x => if x = true then ma env else mb env
theorem r_if (hc : PT X c (tB Z W ta)) (ha : PE X a (tP Z W ma)) (hb : PE X b (tP Z W mb)) : PE X (.IfExp c a b pos) (tP Z W (mIf ta ma mb)) := (pe_ifExp hc ha hb).pimp fun σ H Q ⟨om, env, rl, q⟩ => by
  refine ⟨om, env, rl, ?_⟩
  unfold mIf at q
  cases h : ta env with
  | stuck => rw [h] at q; exact q
  | rs x => rw [h] at q; exact q
  | ok x =>
    rw [h] at q
    simp only [Res.bind] at q
    intro H1 e1
    cases x with
    | true =>
      rw [if_pos rfl]
      rw [if_pos rfl] at q
      refine ⟨om, env, rl.grow e1, ?_⟩
      cases hb : ma env with
      | stuck => rw [hb] at q; exact q
      | rs x => rw [hb] at q; exact fun c d H' e2 => q c d H' (e1.trans e2)
      | ok y => rw [hb] at q; exact fun v H2 e2 => q v H2 (e1.trans e2)
    | false =>
      rw [if_neg Bool.false_ne_true]
      rw [if_neg Bool.false_ne_true] at q
      refine ⟨om, env, rl.grow e1, ?_⟩
      cases hb : mb env with
      | stuck => rw [hb] at q; exact q
      | rs x => rw [hb] at q; exact fun c d H' e2 => q c d H' (e1.trans e2)
      | ok y => rw [hb] at q; exact fun v H2 e2 => q v H2 (e1.trans e2)
end
end RC

set_option Elab.async false
set_option linter.all false
set_option maxRecDepth 100000
set_option maxHeartbeats 2000000
/-! R4: items, slices, displays, built-in calls, calls of defs, methods, classes. -/
namespace RC
open PySem PySem.Spec PyProof.Rows L2

def lab (om : Om) (p : Addr) (l : Lab) : Om := fun a => if a = p then some l else om a
theorem lab_same {om : Om} {p : Addr} {l : Lab} : lab om p l p = some l := by unfold lab; rw [if_pos rfl]
theorem lab_ne {om : Om} {p a : Addr} {l : Lab} (h : a ≠ p) : lab om p l a = om a := by unfold lab; rw [if_neg h]
theorem hide_lab {om : Om} {H : Hp} {p : Addr} {l : Lab} {o : HO} (hp : H p = none) : hide (lab om p l) (upd H p o) = hide om H := by
  funext a
  by_cases h : a = p
  · subst h
    unfold hide
    rw [lab_same]
    show none = _
    cases om a with
    | none => exact hp.symm
    | some _ => rfl
  · unfold hide
    rw [lab_ne h, upd_ne h]
theorem same_new {H : Hp} {p : Addr} {o : HO} (hp : H p = none) : Same H (upd H p o) := fun a u e => by rw [upd_ne (ne_of_none e hp)]; exact e
theorem om_none {om : Om} {H : Hp} {p : Addr} (tr : ∀ a l, om a = some l → ∃ o, H a = some o) (hp : H p = none) : om p = none := by
  cases h : om p with
  | none => rfl
  | some l => obtain ⟨o, q⟩ := tr p l h; rw [hp] at q; cases q
theorem new_lab {om : Om} {H H' : Hp} {p : Addr} {o : HO} (tr : ∀ a l, om a = some l → ∃ o, H a = some o) (e : Same H H') (hp : H' p = none) : New om H (lab om p .tmp) (upd H' p o) := by
  have hp0 : H p = none := e.free hp
  refine ⟨e.trans (same_new hp), fun a l h => ?_, fun a l h => ?_⟩
  · have : a ≠ p := fun z => by subst z; rw [om_none tr hp0] at h; cases h
    rw [lab_ne this]; exact h
  · by_cases z : a = p
    · subst z
      rw [lab_same] at h
      cases h
      exact .inr ⟨hp0, rfl, _, upd_same⟩
    · rw [lab_ne z] at h
      exact .inl h

section
variable {X : Cx} {Z : Zc} {W : WX} {e a b c : Expr} {es : List Expr} {pos p p2 : Pos} {ma mb : Env → Res P} {om : Om} {env : Env} {σ : L2.St} {H : Hp}

/-- a new list as the answer -/
theorem q_new {α : Type} {m : Env → Res α} {mk : α → List D} {Q : VK} {B : Exc → Prop} (rl : Rel Z om σ H env) (q : Lands ((m env).map fun z => R.tmp (.lst (mk z))) (fun r => ∀ v om' H', New om H om' H' → ROk Z.g om' H' r v → Q v H') B) :
    Lands (m env) (fun z => ∀ H', Same H H' → ∀ p xs, H' p = none → Hds Z.g (hide om H') (mk z) xs → Q (.ref p) (upd H' p (.lst xs))) B := by
  cases h : m env with
  | stuck => rw [h] at q; exact q
  | rs x => rw [h] at q; exact q
  | ok z =>
    rw [h] at q
    exact fun H' e p xs hp hd => q (.ref p) _ _ (new_lab rl.tr e hp) ⟨p, xs, rfl, lab_same, upd_same, by rw [hide_lab hp]; exact hd⟩
/-- a tuple as the answer, new or not -/
theorem q_tup {α : Type} {m : Env → Res α} {mk : α → List D} {Q : VK} {B : Exc → Prop} (rl : Rel Z om σ H env) (q : Lands ((m env).map fun z => P.fz (.tup (mk z))) (fun r => ∀ v H', Same H H' → POk Z.g om H' r v → Q v H') B) :
    Lands (m env) (fun z => ∀ H', Same H H' → ((∀ p xs, H' p = none → Hds Z.g (hide om H') (mk z) xs → Q (.ref p) (upd H' p (.tup xs))) ∧ (∀ v, Hd Z.g (hide om H') (.tup (mk z)) v → Q v H'))) B := by
  cases h : m env with
  | stuck => rw [h] at q; exact q
  | rs x => rw [h] at q; exact q
  | ok z =>
    rw [h] at q
    refine fun H' e => ⟨fun p xs hp hd => ?_, fun v hv => q v H' e hv⟩
    have op : om p = none := om_none rl.tr (e.free hp)
    refine q (.ref p) _ (e.trans (same_new hp)) ?_
    unfold POk Hd
    exact ⟨p, xs, rfl, by rw [hide_of op, upd_same], hd.mono (hide_grow (same_new hp))⟩

/-! items -/
def kIx (x y : P) : Option D := match y.int? with
  | none => none
  | some i => match x.seq? with
    | some ds => atI ds i
    | none => match x.str? with
      | some z => if z.length ≤ sizeLine then match atI z.cps.toList i with
        | some c => some (.str ⟨#[c]⟩)
        | none => none
        else none
      | none => none
theorem Hds.atI {g : Ga} {ds : List D} {xs : List V} {i : Int} {d : D} (h : Hds g H ds xs) (e : L2.atI ds i = some d) : ∃ v, L2.atI xs i = some v ∧ Hd g H d v := by
  unfold L2.atI at e ⊢
  rw [← h.len]
  cases hj : ixN ds.length i with
  | none => rw [hj] at e; cases e
  | some j => rw [hj] at e; exact h.get e
def mIx (ma mb : Env → Res P) : Env → Res P := fun env => (m2 kIx ma mb env).map fun z => .fz z
theorem r_ix (kx : Kx X Z W) (ha : PE X a (tP Z W ma)) (hb : PE X b (tP Z W mb)) (hs : PlainIx b := by exact fun _ _ => rfl) : PE X (.Subscript a b pos) (tP Z W (mIx ma mb)) :=
  (pe_ix ix_seq ha hb hs).pimp fun σ H Q ⟨om, env, rl, q⟩ => by
    refine two rl (q_fz (mk := fun z => z) q) fun x y v u H' e rl' p1 p2 z hk qz => ?_
    have qz := qz H' (Same.refl _)
    unfold kIx at hk
    split at hk
    · cases hk
    · rename_i i hi
      rw [p2.int hi]
      split at hk
      · rename_i ds hds
        obtain ⟨p, xs, e1, e2, e3⟩ := p1.seq hds
        obtain ⟨w, e4, e5⟩ := e3.atI hk
        rw [kx.gK] at e2
        subst e1
        rcases e2 with e2 | e2
        · exact .inl ⟨p, xs, i, w, rfl, rfl, e2, e4, qz w e5⟩
        · exact .inr (.inl ⟨p, xs, i, w, rfl, rfl, e2, e4, qz w e5⟩)
      · split at hk
        · rename_i s hs'
          split at hk
          · rename_i hl
            split at hk
            · rename_i cc hc
              cases hk
              exact .inr (.inr ⟨s, i, cc, p1.str hs', rfl, hl, hc, qz _ (by unfold Hd; rfl)⟩)
            · cases hk
          · cases hk
        · cases hk

/-! parts of slices -/
def tQ (Z : Zc) (W : WX) (m : Env → Res (Option Int)) : L2.TO := fun σ H Q => ∃ om env, Rel Z om σ H env ∧ Lands (m env) (fun b => ∀ H', Same H H' → Q b H') (fun x => ∀ c d H', Same H H' → ExOk Z.g om H' x c d → W c d σ H')
theorem _root_.L2.PO.pimp {X : Cx} {e : Option Expr} {t t' : L2.TO} (h : PO X e t) (i : ∀ σ H Q, t' σ H Q → t σ H Q) : PO X e t' := ⟨fun pins s σ H Q I q => h.run pins s σ H Q I (i σ H Q q)⟩
def mNoP : Env → Res (Option Int) := fun _ => .ok none
def mPart (ma : Env → Res P) : Env → Res (Option Int) := one1 (fun p => p.int?.map some) ma
theorem ro_none : PO X none (tQ Z W mNoP) := po_none.pimp fun σ H Q ⟨om, env, rl, q⟩ => q H (Same.refl _)
theorem ro_some (h : PE X e (tP Z W ma)) : PO X (some e) (tQ Z W (mPart ma)) := (po_some h).pimp fun σ H Q ⟨om, env, rl, q⟩ => by
  refine one (k := fun p => p.int?.map some) (B := Q) (T := fun v H' => ∃ i, v = .int i ∧ Q (some i) H') rl q fun x v H' e rl' p1 z hk qz => ?_
  cases hi : x.int? with
  | none => rw [hi] at hk; cases hk
  | some i => rw [hi] at hk; cases hk; exact ⟨i, p1.int hi, qz H' (Same.refl _)⟩
def cutD (ds : List D) (lo hi : Option Int) : List D := (ds.drop (HT.sIx ds.length 0 lo)).take (HT.sIx ds.length ds.length hi - HT.sIx ds.length 0 lo)
theorem Hds.cut {g : Ga} {ds : List D} {xs : List V} (h : Hds g H ds xs) (lo hi : Option Int) : Hds g H (cutD ds lo hi) (cutV xs lo hi) := by
  unfold cutD cutV
  rw [h.len]
  exact (h.drop _).take _
def m3 {α : Type} (k : P → Option Int → Option Int → Option α) (ma : Env → Res P) (ml mh : Env → Res (Option Int)) : Env → Res α := fun env => (ma env).bind fun x => (ml env).bind fun lo => (mh env).bind fun hi => .of (k x lo hi)
theorem three {ml mh : Env → Res (Option Int)} {α : Type} {k : P → Option Int → Option Int → Option α} {B : α → Hp → Prop} {T : V → Option Int → Option Int → Hp → Prop} (rl : Rel Z om σ H env)
    (q : Lands (m3 k ma ml mh env) (fun z => ∀ H', Same H H' → B z H') (fun x => ∀ c d H', Same H H' → ExOk Z.g om H' x c d → W c d σ H'))
    (f : ∀ x v lo hi H', Same H H' → Rel Z om σ H' env → POk Z.g om H' x v → ∀ z, k x lo hi = some z → (∀ H'', Same H' H'' → B z H'') → T v lo hi H') :
    tP Z W ma σ H fun v H1 => tQ Z W ml σ H1 fun lo H2 => tQ Z W mh σ H2 fun hi H3 => T v lo hi H3 := by
  unfold m3 at q
  refine ⟨om, env, rl, ?_⟩
  cases ha : ma env with
  | stuck => rw [ha] at q; exact q
  | rs x => rw [ha] at q; exact q
  | ok x =>
    rw [ha] at q
    simp only [Res.bind] at q
    intro v H1 e1 p1
    refine ⟨om, env, rl.grow e1, ?_⟩
    cases hl : ml env with
    | stuck => rw [hl] at q; exact q
    | rs x => rw [hl] at q; exact fun c d H' e2 => q c d H' (e1.trans e2)
    | ok lo =>
      rw [hl] at q
      simp only [Res.bind] at q
      intro H2 e2
      refine ⟨om, env, rl.grow (e1.trans e2), ?_⟩
      cases hh : mh env with
      | stuck => rw [hh] at q; exact q
      | rs x => rw [hh] at q; exact fun c d H' e3 => q c d H' ((e1.trans e2).trans e3)
      | ok hi =>
        rw [hh] at q
        simp only [Res.bind] at q
        intro H3 e3
        cases hk : k x lo hi with
        | none => rw [hk] at q; exact q.elim
        | some z =>
          rw [hk] at q
          simp only [Res.of] at q
          exact f x v lo hi H3 ((e1.trans e2).trans e3) (rl.grow ((e1.trans e2).trans e3)) (p1.grow (rl.grow e1).tr (e2.trans e3)) z hk fun H'' e4 => q H'' (((e1.trans e2).trans e3).trans e4)
/-- a list that may be cut: also the script -/
def P.slc? : P → Option (List D)
  | .fz (.scr ns) => some (ns.map D.int)
  | p => p.lst?
theorem hds_ints {g : Ga} {H : Hp} : ∀ ns : List Int, Hds g H (ns.map D.int) (ns.map V.int)
  | [] => .nil
  | n :: ns => .cons (by unfold Hd; rfl) (hds_ints ns)
theorem POk.slc {g : Ga} {x : P} {v : V} {ds : List D} (h : POk g om H x v) (e : x.slc? = some ds) : ∃ a xs, v = .ref a ∧ SqL g.K H a xs ∧ Hds g (hide om H) ds xs := by
  unfold P.slc? at e
  split at e
  · rename_i ns
    cases e
    simp only [POk, Hd] at h
    obtain ⟨a, h1, h2⟩ := h
    exact ⟨a, _, h1, Same.seq hide_same h2, hds_ints ns⟩
  · obtain ⟨a, xs, h1, h2, h3⟩ := h.lst e
    exact ⟨a, xs, h1, SqL.of h2, h3⟩
def kSlL (x : P) (lo hi : Option Int) : Option (List D) := x.slc?.map fun ds => cutD ds lo hi
def kSlT (x : P) (lo hi : Option Int) : Option (List D) := x.tup?.map fun ds => cutD ds lo hi
def kSlS (x : P) (lo hi : Option Int) : Option Str := x.str?.bind fun z => if z.length ≤ sizeLine then some (cutS z lo hi) else none
variable {ml mh : Env → Res (Option Int)} {lo hi : Option Expr}
def mSlL (ma : Env → Res P) (ml mh : Env → Res (Option Int)) : Env → Res R := fun env => (m3 kSlL ma ml mh env).map fun z => .tmp (.lst z)
def mSlT (ma : Env → Res P) (ml mh : Env → Res (Option Int)) : Env → Res P := fun env => (m3 kSlT ma ml mh env).map fun z => .fz (.tup z)
def mSlS (ma : Env → Res P) (ml mh : Env → Res (Option Int)) : Env → Res P := fun env => (m3 kSlS ma ml mh env).map fun z => .fz (.str z)
theorem r_slL (kx : Kx X Z W) (ha : PE X a (tP Z W ma)) (hl : PO X lo (tQ Z W ml)) (hh : PO X hi (tQ Z W mh)) : PE X (.Subscript a (.Slice lo hi none p2) pos) (tO Z W (mSlL ma ml mh)) :=
  (pe_slice sl_list ha hl hh).pimp fun σ H Q ⟨om, env, rl, q⟩ => by
    refine three (T := fun v lo hi H' => rSlL X.K v lo hi H' Q) rl (q_new rl q) fun x v lo hi H' e rl' p1 z hk qz => ?_
    unfold kSlL at hk
    cases hx : x.slc? with
    | none => rw [hx] at hk; cases hk
    | some ds =>
      rw [hx] at hk
      cases hk
      obtain ⟨a, xs, h1, h2, h3⟩ := p1.slc hx
      rw [kx.gK] at h2
      exact ⟨a, xs, h1, h2, fun p hp => qz H' (Same.refl _) p _ hp (h3.cut lo hi)⟩
theorem cut_whole {ds : List D} {lo hi : Option Int} (h : HT.sIx ds.length 0 lo = 0 ∧ HT.sIx ds.length ds.length hi = ds.length) : cutD ds lo hi = ds := by
  unfold cutD
  rw [h.1, h.2]
  simp
theorem r_slT (kx : Kx X Z W) (ha : PE X a (tP Z W ma)) (hl : PO X lo (tQ Z W ml)) (hh : PO X hi (tQ Z W mh)) : PE X (.Subscript a (.Slice lo hi none p2) pos) (tP Z W (mSlT ma ml mh)) :=
  (pe_slice sl_tupA ha hl hh).pimp fun σ H Q ⟨om, env, rl, q⟩ => by
    refine three (T := fun v lo hi H' => rSlA X.K v lo hi H' Q) rl (q_tup rl q) fun x v lo hi H' e rl' p1 z hk qz => ?_
    unfold kSlT at hk
    cases hx : x.tup? with
    | none => rw [hx] at hk; cases hk
    | some ds =>
      rw [hx] at hk
      cases hk
      obtain ⟨a, xs, h1, h2, h3⟩ := p1.tup hx
      have hd : Hd Z.g (hide om H') (.tup ds) v := by
        cases x with
        | fz d =>
          cases d <;> simp [P.tup?] at hx
          subst hx
          exact p1
        | bor l o => simp [P.tup?] at hx
      refine ⟨a, xs, h1, SqT.of h2, fun hw => ?_, fun hw p hp => (qz H' (Same.refl _)).1 p _ hp (h3.cut lo hi)⟩
      rw [← h3.len] at hw
      have z := (qz H' (Same.refl _)).2 v (by show Hd Z.g (hide om H') (.tup (cutD ds lo hi)) v; rw [cut_whole hw]; exact hd)
      rw [h1] at z
      exact z
theorem r_slS (ha : PE X a (tP Z W ma)) (hl : PO X lo (tQ Z W ml)) (hh : PO X hi (tQ Z W mh)) : PE X (.Subscript a (.Slice lo hi none p2) pos) (tP Z W (mSlS ma ml mh)) :=
  (pe_slice sl_str ha hl hh).pimp fun σ H Q ⟨om, env, rl, q⟩ => by
    refine three (T := fun v lo hi H' => rSlS v lo hi H' Q) rl (q_fz q) fun x v lo hi H' e rl' p1 z hk qz => ?_
    unfold kSlS at hk
    cases hx : x.str? with
    | none => rw [hx] at hk; cases hk
    | some s =>
      rw [hx] at hk
      simp only [Option.bind] at hk
      split at hk
      · rename_i hl
        cases hk
        exact ⟨s, p1.str hx, hl, qz H' (Same.refl _) _ (by unfold Hd; rfl)⟩
      · cases hk

/-! arguments, displays -/
def mNil : Env → Res (List P) := fun _ => .ok []
def mCons (ma : Env → Res P) (mr : Env → Res (List P)) : Env → Res (List P) := fun env => (ma env).bind fun x => (mr env).map fun r => x :: r
variable {mr : Env → Res (List P)}
theorem ra_nil : PA X [] (tA Z W mNil) := pa_nil.pimp fun σ H Q ⟨om, env, rl, q⟩ => q [] H (Same.refl _) rfl
theorem ra_cons (ha : PE X e (tP Z W ma)) (hr : PA X es (tA Z W mr)) (hs : starEach (e :: es) X.env = (false, eval e X.env) :: starEach es X.env := by rfl) : PA X (e :: es) (tA Z W (mCons ma mr)) :=
  (pa_cons ha hr hs).pimp fun σ H Q ⟨om, env, rl, q⟩ => by
    unfold mCons at q
    refine ⟨om, env, rl, ?_⟩
    cases ha : ma env with
    | stuck => rw [ha] at q; exact q
    | rs x => rw [ha] at q; exact q
    | ok x =>
      rw [ha] at q
      simp only [Res.bind] at q
      intro v H1 e1 p1
      refine ⟨om, env, rl.grow e1, ?_⟩
      cases hb : mr env with
      | stuck => rw [hb] at q; exact q
      | rs x => rw [hb] at q; exact fun c d H' e2 => q c d H' (e1.trans e2)
      | ok y =>
        rw [hb] at q
        exact fun vs H2 e2 p2 => q (v :: vs) H2 (e1.trans e2) ⟨v, vs, rfl, p1.grow (rl.grow e1).tr e2, p2⟩
def oneA {α : Type} (k : List P → Option α) (mr : Env → Res (List P)) : Env → Res α := fun env => (mr env).bind fun x => .of (k x)
theorem onA {α : Type} {k : List P → Option α} {B : α → Hp → Prop} {T : List V → Hp → Prop} (r : Rel Z om σ H env)
    (q : Lands (oneA k mr env) (fun z => ∀ H', Same H H' → B z H') (fun x => ∀ c d H', Same H H' → ExOk Z.g om H' x c d → W c d σ H'))
    (f : ∀ ps vs H', Same H H' → Rel Z om σ H' env → PsOk Z.g om H' ps vs → ∀ z, k ps = some z → (∀ H'', Same H' H'' → B z H'') → T vs H') :
    tA Z W mr σ H fun v H1 => T v H1 := by
  unfold oneA at q
  refine ⟨om, env, r, ?_⟩
  cases ha : mr env with
  | stuck => rw [ha] at q; exact q
  | rs x => rw [ha] at q; exact q
  | ok x =>
    rw [ha] at q
    simp only [Res.bind] at q
    intro v H1 e1 p1
    cases hk : k x with
    | none => rw [hk] at q; exact q.elim
    | some z =>
      rw [hk] at q
      simp only [Res.of] at q
      exact f x v H1 e1 (r.grow e1) p1 z hk fun H'' e3 => q H'' (e1.trans e3)
/-- all of them fixed data -/
def cold : List P → Option (List D)
  | [] => some []
  | .fz d :: ps => (cold ps).map fun ds => d :: ds
  | .bor _ _ :: _ => none
theorem PsOk.cold {g : Ga} : ∀ {ps : List P} {vs : List V} {ds : List D}, PsOk g om H ps vs → RC.cold ps = some ds → Hds g (hide om H) ds vs
  | [], vs, ds, h, e => by cases e; rw [show vs = [] from h]; exact .nil
  | .fz d :: ps, vs, ds, ⟨v, r, h1, h2, h3⟩, e => by
    unfold RC.cold at e
    cases hp : RC.cold ps with
    | none => rw [hp] at e; cases e
    | some ds' =>
      rw [hp] at e
      cases e
      rw [h1]
      exact .cons h2 (PsOk.cold h3 hp)
  | .bor _ _ :: _, vs, ds, h, e => by cases e
def kDisp (ps : List P) : Option (List D) := (cold ps).bind fun ds => if ds.length ≤ 16777216 then some ds else none
def mLst (mr : Env → Res (List P)) : Env → Res R := fun env => (oneA kDisp mr env).map fun z => .tmp (.lst z)
def mTup (mr : Env → Res (List P)) : Env → Res P := fun env => (oneA kDisp mr env).map fun z => .fz (.tup z)
theorem kDisp_some {ps : List P} {z : List D} (h : kDisp ps = some z) : cold ps = some z ∧ z.length ≤ sizeLine := by
  unfold kDisp at h
  cases hc : cold ps with
  | none => rw [hc] at h; cases h
  | some ds =>
    rw [hc] at h
    simp only [Option.bind] at h
    split at h
    · rename_i hl
      cases h
      exact ⟨rfl, by rw [sizeLine_eq]; exact hl⟩
    · cases h
theorem r_lst (ha : PA X es (tA Z W mr)) : PE X (.List es pos) (tO Z W (mLst mr)) := (pe_lst ha).pimp fun σ H Q ⟨om, env, rl, q⟩ => by
  refine onA rl (q_new rl q) fun ps vs H' e rl' po z hk qz => ?_
  obtain ⟨h1, h2⟩ := kDisp_some hk
  have hd := po.cold h1
  exact ⟨by rw [← hd.len]; exact h2, fun p hp => qz H' (Same.refl _) p vs hp hd⟩
theorem r_tup {x1} (ha : PA X es (tA Z W mr)) : PE X (.Tuple es x1 pos) (tP Z W (mTup mr)) := (pe_tup ha).pimp fun σ H Q ⟨om, env, rl, q⟩ => by
  refine onA rl (q_tup rl q) fun ps vs H' e rl' po z hk qz => ?_
  obtain ⟨h1, h2⟩ := kDisp_some hk
  have hd := po.cold h1
  exact ⟨by rw [← hd.len]; exact h2, fun p hp => (qz H' (Same.refl _)).1 p vs hp hd⟩

/-! lists joined, repeated -/
def kCat (x y : P) : Option (List D) := match x.lst?, y.lst? with
  | some ds, some es => if ds.length + es.length ≤ 16777216 then some (ds ++ es) else none
  | _, _ => none
def mCat (ma mb : Env → Res P) : Env → Res R := fun env => (m2 kCat ma mb env).map fun z => .tmp (.lst z)
theorem r_cat (ha : PE X a (tP Z W ma)) (hb : PE X b (tP Z W mb)) : PE X (.BinOp a .Add b pos) (tO Z W (mCat ma mb)) := (pe_op op_cat ha hb).pimp fun σ H Q ⟨om, env, rl, q⟩ => by
  refine two rl (q_new rl q) fun x y v u H' e rl' p1 p2 z hk qz => ?_
  unfold kCat at hk
  split at hk
  · rename_i ds es h1 h2
    split at hk
    · rename_i hl
      cases hk
      obtain ⟨l, xs, e1, e2, e3⟩ := p1.lst h1
      obtain ⟨l', ys, e1', e2', e3'⟩ := p2.lst h2
      exact ⟨l, l', xs, ys, e1, e1', e2, e2', by rw [← e3.len, ← e3'.len, sizeLine_eq]; exact hl, fun p hp => qz H' (Same.refl _) p _ hp (e3.app e3')⟩
    · cases hk
  · cases hk
def kRep (x y : P) : Option (List D) := match x.lst?, y.int? with
  | some ds, some k => if -9223372036854775808 ≤ k ∧ k < 9223372036854775808 ∧ ds.length * k.toNat ≤ 16777216 then some (List.replicate k.toNat ds).flatten else none
  | _, _ => none
theorem Hds.reps {g : Ga} {ds : List D} {xs : List V} (h : Hds g H ds xs) : ∀ n, Hds g H (List.replicate n ds).flatten (List.replicate n xs).flatten
  | 0 => .nil
  | n + 1 => by
    rw [List.replicate_succ, List.replicate_succ, List.flatten_cons, List.flatten_cons]
    exact h.app (Hds.reps h n)
def mRep (ma mb : Env → Res P) : Env → Res R := fun env => (m2 kRep ma mb env).map fun z => .tmp (.lst z)
theorem r_rep (ha : PE X a (tP Z W ma)) (hb : PE X b (tP Z W mb)) : PE X (.BinOp a .Mult b pos) (tO Z W (mRep ma mb)) := (pe_op op_rep ha hb).pimp fun σ H Q ⟨om, env, rl, q⟩ => by
  refine two rl (q_new rl q) fun x y v u H' e rl' p1 p2 z hk qz => ?_
  unfold kRep at hk
  split at hk
  · rename_i ds k h1 h2
    split at hk
    · rename_i hl
      cases hk
      obtain ⟨l, xs, e1, e2, e3⟩ := p1.lst h1
      exact ⟨l, k, xs, e1, p2.int h2, e2, hl.1, hl.2.1, by rw [← e3.len, sizeLine_eq]; exact hl.2.2, fun p hp => qz H' (Same.refl _) p _ hp (e3.reps _)⟩
    · cases hk
  · cases hk
def kCatT (x y : P) : Option (List D) := match x.tup?, y.tup? with
  | some ds, some es => if ds.length + es.length ≤ 16777216 then some (ds ++ es) else none
  | _, _ => none
def mCatT (ma mb : Env → Res P) : Env → Res P := fun env => (m2 kCatT ma mb env).map fun z => .fz (.tup z)
theorem tup_of {g : Ga} {x : P} {v : V} {ds : List D} (h : POk g om H x v) (e : x.tup? = some ds) : Hd g (hide om H) (.tup ds) v := by
  cases x with
  | fz d =>
    cases d <;> simp [P.tup?] at e
    subst e
    exact h
  | bor l o => simp [P.tup?] at e
theorem r_catT (kx : Kx X Z W) (ha : PE X a (tP Z W ma)) (hb : PE X b (tP Z W mb)) : PE X (.BinOp a .Add b pos) (tP Z W (mCatT ma mb)) := (pe_op op_catA ha hb).pimp fun σ H Q ⟨om, env, rl, q⟩ => by
  refine two rl (q_tup rl q) fun x y v u H' e rl' p1 p2 z hk qz => ?_
  unfold kCatT at hk
  split at hk
  · rename_i ds es h1 h2
    split at hk
    · rename_i hl
      cases hk
      have d1 := tup_of p1 h1
      have d2 := tup_of p2 h2
      obtain ⟨l, xs, e1, e2, e3⟩ := p1.tup h1
      obtain ⟨l', ys, e1', e2', e3'⟩ := p2.tup h2
      have qz := qz H' (Same.refl _)
      refine ⟨l, l', xs, ys, e1, e1', SqT.of e2, SqT.of e2', by rw [← e3.len, ← e3'.len, sizeLine_eq]; exact hl, fun z => ?_, fun z z' => ?_, fun _ _ p hp => qz.1 p _ hp (e3.app e3')⟩
      · have : ds = [] := List.eq_nil_of_length_eq_zero (by rw [e3.len, z]; rfl)
        subst this
        have w := qz.2 u d2
        rw [e1'] at w
        exact w
      · have : es = [] := List.eq_nil_of_length_eq_zero (by rw [e3'.len, z']; rfl)
        subst this
        have w := qz.2 v (by rw [List.append_nil]; exact d1)
        rw [e1] at w
        exact w
    · cases hk
  · cases hk
def kCatS (x y : P) : Option Str := match x.str?, y.str? with
  | some s, some t => if s.length + t.length ≤ 16777216 then some (s ++ t) else none
  | _, _ => none
def mCatS (ma mb : Env → Res P) : Env → Res P := fun env => (m2 kCatS ma mb env).map fun z => .fz (.str z)
theorem r_catS (ha : PE X a (tP Z W ma)) (hb : PE X b (tP Z W mb)) : PE X (.BinOp a .Add b pos) (tP Z W (mCatS ma mb)) := (pe_op op_add_str ha hb).pimp fun σ H Q ⟨om, env, rl, q⟩ => by
  refine two rl (q_fz q) fun x y v u H' e rl' p1 p2 z hk qz => ?_
  unfold kCatS at hk
  split at hk
  · rename_i s t h1 h2
    split at hk
    · rename_i hl
      cases hk
      exact ⟨s, t, p1.str h1, p2.str h2, by rw [sizeLine_eq]; exact hl, qz H' (Same.refl _) _ (by unfold Hd; rfl)⟩
    · cases hk
  · cases hk

/-! built-ins called by name -/
theorem r_bi {α : Type} {id : String} {x : Str} {r : List V → Hp → VK → Prop} {k : List P → Option α} {mk : α → D} (hc : CallR X (.builtin id) r)
    (hr : ∀ om H ps vs z (Q : VK), PsOk Z.g om H ps vs → k ps = some z → (∀ v, Hd Z.g (hide om H) (mk z) v → Q v H) → r vs H Q) (hg : Gl X x) (hm : X.mg x = none) (hv : bootBuiltins x = some (.builtin id))
    (ha : PA X (e :: es) (tA Z W mr)) (hn : x ≠ "__name__" := by decide) (hdb : (x == ("__debug__" : Str)) = false := by decide)
    (he : starEach (e :: es) X.env = (false, eval e X.env) :: starEach es X.env := by rfl) (hpl : (backTo pos (starEach es X.env)).any (·.1) = false := by rfl) :
    PE X (.Call (.Name x p) (e :: es) [] pos) (tP Z W fun env => (oneA k mr env).map fun z => .fz (mk z)) := (pe_callB hc hg hm hv ha hn hdb he hpl).pimp fun σ H Q ⟨om, env, rl, q⟩ => by
  refine onA rl (q_fz q) fun ps vs H' e rl' po z hk qz => ?_
  exact hr om H' ps vs z Q po hk fun v hv => qz H' (Same.refl _) v hv
theorem r_ty {α : Type} {T : String} {x : Str} {r : List V → Hp → VK → Prop} {k : List P → Option α} {mk : α → D} (hc : CallR X (.type T) r)
    (hr : ∀ om H ps vs z (Q : VK), PsOk Z.g om H ps vs → k ps = some z → (∀ v, Hd Z.g (hide om H) (mk z) v → Q v H) → r vs H Q) (hg : Gl X x) (hm : X.mg x = none) (hv : bootBuiltins x = some (.type T))
    (ha : PA X (e :: es) (tA Z W mr)) (hn : x ≠ "__name__" := by decide) (hdb : (x == ("__debug__" : Str)) = false := by decide)
    (he : starEach (e :: es) X.env = (false, eval e X.env) :: starEach es X.env := by rfl) (hpl : (backTo pos (starEach es X.env)).any (·.1) = false := by rfl) :
    PE X (.Call (.Name x p) (e :: es) [] pos) (tP Z W fun env => (oneA k mr env).map fun z => .fz (mk z)) := (pe_callTy hc hg hm hv ha hn hdb he hpl).pimp fun σ H Q ⟨om, env, rl, q⟩ => by
  refine onA rl (q_fz q) fun ps vs H' e rl' po z hk qz => ?_
  exact hr om H' ps vs z Q po hk fun v hv => qz H' (Same.refl _) v hv
theorem PsOk.one {g : Ga} {x : P} {vs : List V} (h : PsOk g om H [x] vs) : ∃ v, vs = [v] ∧ POk g om H x v := by
  obtain ⟨v, r, h1, h2, h3⟩ := h
  rw [show r = [] from h3] at h1
  exact ⟨v, h1, h2⟩
theorem PsOk.two {g : Ga} {x y : P} {vs : List V} (h : PsOk g om H [x, y] vs) : ∃ v u, vs = [v, u] ∧ POk g om H x v ∧ POk g om H y u := by
  obtain ⟨v, r, h1, h2, h3⟩ := h
  obtain ⟨u, h4, h5⟩ := h3.one
  rw [h4] at h1
  exact ⟨v, u, h1, h2, h5⟩
def kLen : List P → Option Int
  | [x] => match x.seq? with
    | some ds => some ds.length
    | none => match x.str? with
      | some z => if z.length ≤ sizeLine then some z.length else none
      | none => none
  | _ => none
def mLen (mr : Env → Res (List P)) : Env → Res P := fun env => (oneA kLen mr env).map fun z => .fz (.int z)
theorem r_len (kx : Kx X Z W) (hm : X.mg "len" = none) (ha : PA X (e :: es) (tA Z W mr)) (hg : Gl X "len" := by rfl)
    (he : starEach (e :: es) X.env = (false, eval e X.env) :: starEach es X.env := by rfl) (hpl : (backTo pos (starEach es X.env)).any (·.1) = false := by rfl) : PE X (.Call (.Name "len" p) (e :: es) [] pos) (tP Z W (mLen mr)) :=
  r_bi call_len (fun om H ps vs z Q po hk q => by
    unfold kLen at hk
    split at hk
    · rename_i x
      obtain ⟨v, rfl, p1⟩ := po.one
      split at hk
      · rename_i ds hs
        cases hk
        obtain ⟨a, xs, h1, h2, h3⟩ := p1.seq hs
        subst h1
        rw [kx.gK] at h2
        refine ⟨_, xs.length, rfl, ?_, q _ (by rw [h3.len]; unfold Hd; rfl)⟩
        rcases h2 with h2 | h2
        · exact .inl ⟨xs, h2, rfl⟩
        · exact .inr ⟨xs, h2, rfl⟩
      · split at hk
        · rename_i s hs
          split at hk
          · rename_i hl
            cases hk
            refine ⟨v, s.length, rfl, ?_, q _ (by unfold Hd; rfl)⟩
            rw [p1.str hs]
            exact ⟨hl, rfl⟩
          · cases hk
        · cases hk
    · cases hk) hg hm (by decide +kernel) ha (by decide) (by decide) he hpl
def kMin2 : List P → Option Int
  | [x, y] => kI (fun i j => some (if j < i then j else i)) x y
  | _ => none
def kMax2 : List P → Option Int
  | [x, y] => kI (fun i j => some (if j > i then j else i)) x y
  | _ => none
def mMin2 (mr : Env → Res (List P)) : Env → Res P := fun env => (oneA kMin2 mr env).map fun z => .fz (.int z)
def mMax2 (mr : Env → Res (List P)) : Env → Res P := fun env => (oneA kMax2 mr env).map fun z => .fz (.int z)
theorem r_min2 (kx : Kx X Z W) (hm : X.mg "min" = none) (ha : PA X (e :: es) (tA Z W mr)) (hg : Gl X "min" := by rfl)
    (he : starEach (e :: es) X.env = (false, eval e X.env) :: starEach es X.env := by rfl) (hpl : (backTo pos (starEach es X.env)).any (·.1) = false := by rfl) (hz : Z.hot = false := by rfl) : PE X (.Call (.Name "min" p) (e :: es) [] pos) (tP Z W (mMin2 mr)) :=
  r_bi (call_min2 (kx.calm hz)) (fun om H ps vs z Q po hk q => by
    unfold kMin2 at hk
    split at hk
    · obtain ⟨v, u, rfl, p1, p2⟩ := po.two
      obtain ⟨i, j, h1, h2, h3⟩ := kI_some hk
      cases h3
      exact ⟨i, j, by rw [p1.int h1, p2.int h2], q _ (by unfold Hd; rfl)⟩
    · cases hk) hg hm (by decide +kernel) ha (by decide) (by decide) he hpl
theorem r_max2 (kx : Kx X Z W) (hm : X.mg "max" = none) (ha : PA X (e :: es) (tA Z W mr)) (hg : Gl X "max" := by rfl)
    (he : starEach (e :: es) X.env = (false, eval e X.env) :: starEach es X.env := by rfl) (hpl : (backTo pos (starEach es X.env)).any (·.1) = false := by rfl) (hz : Z.hot = false := by rfl) : PE X (.Call (.Name "max" p) (e :: es) [] pos) (tP Z W (mMax2 mr)) :=
  r_bi (call_max2 (kx.calm hz)) (fun om H ps vs z Q po hk q => by
    unfold kMax2 at hk
    split at hk
    · obtain ⟨v, u, rfl, p1, p2⟩ := po.two
      obtain ⟨i, j, h1, h2, h3⟩ := kI_some hk
      cases h3
      exact ⟨i, j, by rw [p1.int h1, p2.int h2], q _ (by unfold Hd; rfl)⟩
    · cases hk) hg hm (by decide +kernel) ha (by decide) (by decide) he hpl
/-- the ints of a list -/
def ints? : List D → Option (List Int)
  | [] => some []
  | .int i :: ds => (ints? ds).map fun r => i :: r
  | _ :: _ => none
theorem ints_ok {g : Ga} {H : Hp} : ∀ {ds : List D} {vs : List V} {ns : List Int}, Hds g H ds vs → ints? ds = some ns → vs = ns.map V.int
  | [], vs, ns, h, e => by unfold Hds at h; cases e; exact h
  | d :: ds, vs, ns, h, e => by
    unfold Hds at h
    obtain ⟨v, r, rfl, h1, h2⟩ := h
    cases d <;> simp only [ints?, reduceCtorEq] at e
    cases hr : ints? ds with
    | none => rw [hr] at e; cases e
    | some ns' =>
      rw [hr] at e
      cases e
      simp only [Hd] at h1
      rw [h1, ints_ok h2 hr]
      rfl
theorem ints_map : ∀ ns : List Int, ints? (ns.map D.int) = some ns
  | [] => rfl
  | n :: ns => by simp [ints?, ints_map ns]
def kSum : List P → Option Int
  | [x] => match x.lst? with
    | some ds => (ints? ds).map List.sum
    | none => none
  | _ => none
def mSum (mr : Env → Res (List P)) : Env → Res P := fun env => (oneA kSum mr env).map fun z => .fz (.int z)
theorem r_sum (kx : Kx X Z W) (hm : X.mg "sum" = none) (ha : PA X (e :: es) (tA Z W mr)) (hg : Gl X "sum" := by rfl)
    (he : starEach (e :: es) X.env = (false, eval e X.env) :: starEach es X.env := by rfl) (hpl : (backTo pos (starEach es X.env)).any (·.1) = false := by rfl) (hz : Z.hot = false := by rfl) : PE X (.Call (.Name "sum" p) (e :: es) [] pos) (tP Z W (mSum mr)) :=
  r_bi (cr_sum (kx.calm hz)) (fun om H ps vs z Q po hk q => by
    unfold kSum at hk
    split at hk
    · obtain ⟨v, rfl, p1⟩ := po.one
      split at hk
      · rename_i ds hs
        cases hi : ints? ds with
        | none => rw [hi] at hk; cases hk
        | some ns =>
          rw [hi] at hk
          cases hk
          obtain ⟨a, xs, h1, h2, h3⟩ := p1.lst hs
          rw [ints_ok h3 hi] at h2
          exact ⟨a, ns, by rw [h1], SqL.of h2, q _ (by unfold Hd; rfl)⟩
      · cases hk
    · cases hk) hg hm (by decide +kernel) ha (by decide) (by decide) he hpl
def least? (ns : List Int) : Option Int := ns.min?
def kMin : List P → Option Int
  | [x] => match x.lst? with
    | some ds => match ints? ds with
      | some ns => ns.min?
      | none => none
    | none => none
  | _ => none
def mMin (mr : Env → Res (List P)) : Env → Res P := fun env => (oneA kMin mr env).map fun z => .fz (.int z)
theorem r_min (kx : Kx X Z W) (hm : X.mg "min" = none) (ha : PA X (e :: es) (tA Z W mr)) (hg : Gl X "min" := by rfl)
    (he : starEach (e :: es) X.env = (false, eval e X.env) :: starEach es X.env := by rfl) (hpl : (backTo pos (starEach es X.env)).any (·.1) = false := by rfl) (hz : Z.hot = false := by rfl) : PE X (.Call (.Name "min" p) (e :: es) [] pos) (tP Z W (mMin mr)) :=
  r_bi (cr_min (kx.calm hz)) (fun om H ps vs z Q po hk q => by
    unfold kMin at hk
    split at hk
    · obtain ⟨v, rfl, p1⟩ := po.one
      split at hk
      · rename_i ds hs
        split at hk
        · rename_i ns hi
          obtain ⟨a, xs, h1, h2, h3⟩ := p1.lst hs
          rw [ints_ok h3 hi] at h2
          obtain ⟨hm1, hm2⟩ := List.min?_eq_some_iff.mp hk
          refine ⟨a, ns, by rw [h1], SqL.of h2, List.length_pos_of_mem hm1, fun m hm hle => ?_⟩
          have : m = z := Int.le_antisymm (hle z hm1) (hm2 m hm)
          subst this
          exact q _ (by unfold Hd; rfl)
        · cases hk
      · cases hk
    · cases hk) hg hm (by decide +kernel) ha (by decide) (by decide) he hpl
def kInt : List P → Option Int
  | [x] => match x.int? with
    | some i => some i
    | none => match x.bl? with
      | some b => some (if b = true then 1 else 0)
      | none => none
  | _ => none
def mInt (mr : Env → Res (List P)) : Env → Res P := fun env => (oneA kInt mr env).map fun z => .fz (.int z)
theorem r_intc (kx : Kx X Z W) (hm : X.mg "int" = none) (ha : PA X (e :: es) (tA Z W mr)) (hg : Gl X "int" := by rfl)
    (he : starEach (e :: es) X.env = (false, eval e X.env) :: starEach es X.env := by rfl) (hpl : (backTo pos (starEach es X.env)).any (·.1) = false := by rfl) : PE X (.Call (.Name "int" p) (e :: es) [] pos) (tP Z W (mInt mr)) :=
  r_ty call_int1 (fun om H ps vs z Q po hk q => by
    unfold kInt at hk
    split at hk
    · obtain ⟨v, rfl, p1⟩ := po.one
      split at hk
      · rename_i i hi
        cases hk
        exact .inl ⟨z, by rw [p1.int hi], q _ (by unfold Hd; rfl)⟩
      · split at hk
        · rename_i b hb
          cases hk
          refine .inr ⟨b, by rw [p1.bl hb], q _ ?_⟩
          unfold Hd
          rfl
        · cases hk
    · cases hk) hg hm (by decide +kernel) ha (by decide) (by decide) he hpl
/-- list(x) of a list or a tuple -/
def kListc : List P → Option (List D)
  | [x] => x.seq?
  | _ => none
def mListc (mr : Env → Res (List P)) : Env → Res R := fun env => (oneA kListc mr env).map fun z => .tmp (.lst z)
theorem r_listc (kx : Kx X Z W) (hm : X.mg "list" = none) (ha : PA X (e :: es) (tA Z W mr)) (hg : Gl X "list" := by rfl)
    (he : starEach (e :: es) X.env = (false, eval e X.env) :: starEach es X.env := by rfl) (hpl : (backTo pos (starEach es X.env)).any (·.1) = false := by rfl) : PE X (.Call (.Name "list" p) (e :: es) [] pos) (tO Z W (mListc mr)) :=
  (pe_callTy call_list_of hg hm (by decide +kernel) ha (by decide) (by decide) he hpl).pimp fun σ H Q ⟨om, env, rl, q⟩ => by
    refine onA rl (q_new rl q) fun ps vs H' e rl' po z hk qz => ?_
    unfold kListc at hk
    split at hk
    · obtain ⟨v, rfl, p1⟩ := po.one
      obtain ⟨a, xs, h1, h2, h3⟩ := p1.seq hk
      rw [kx.gK] at h2
      exact ⟨a, xs, by rw [h1], h2, fun l hl => qz H' (Same.refl _) l xs hl h3⟩
    · cases hk
def kTupc : List P → Option (List D)
  | [x] => x.seq?
  | _ => none
def mTupc (mr : Env → Res (List P)) : Env → Res P := fun env => (oneA kTupc mr env).map fun z => .fz (.tup z)
theorem r_tupc (kx : Kx X Z W) (hm : X.mg "tuple" = none) (ha : PA X (e :: es) (tA Z W mr)) (hg : Gl X "tuple" := by rfl)
    (he : starEach (e :: es) X.env = (false, eval e X.env) :: starEach es X.env := by rfl) (hpl : (backTo pos (starEach es X.env)).any (·.1) = false := by rfl) : PE X (.Call (.Name "tuple" p) (e :: es) [] pos) (tP Z W (mTupc mr)) :=
  (pe_callTy call_tuple_of hg hm (by decide +kernel) ha (by decide) (by decide) he hpl).pimp fun σ H Q ⟨om, env, rl, q⟩ => by
    refine onA rl (q_tup rl q) fun ps vs H' e rl' po z hk qz => ?_
    have qz := qz H' (Same.refl _)
    unfold kTupc at hk
    split at hk
    · rename_i x
      obtain ⟨v, rfl, p1⟩ := po.one
      unfold P.seq? at hk
      split at hk
      · rename_i ds hs
        cases hk
        obtain ⟨a, xs, h1, h2, h3⟩ := p1.lst hs
        exact ⟨a, xs, by rw [h1], .inl ⟨SqL.of h2, fun l hl => qz.1 l xs hl h3⟩⟩
      · obtain ⟨a, xs, h1, h2, h3⟩ := p1.tup hk
        have w := qz.2 v (tup_of p1 hk)
        rw [h1] at w
        exact ⟨a, xs, by rw [h1], .inr ⟨SqT.of h2, w⟩⟩
    · cases hk
end
end RC

set_option Elab.async false
set_option linter.all false
set_option maxRecDepth 100000
set_option maxHeartbeats 2000000
/-! R5: calls of defs, methods, classes; attributes. -/
namespace RC
open PySem PySem.Spec PyProof.Rows L2

/-- a label's root changed -/
def Lab.re (f : Lab → Lab) : Lab → Lab
  | .sub l s => .sub (l.re f) s
  | l => f l
theorem Lab.re_root (f : Lab → Lab) (hf : ∀ l, (f l).root = f l) : ∀ l : Lab, (l.re f).root = f l.root
  | .sub l s => Lab.re_root f hf l
  | .amb => hf _
  | .slot i => hf _
  | .tmp => hf _
theorem Lab.re_eq (f : Lab → Lab) : ∀ {l : Lab}, f l.root = l.root → l.re f = l
  | .sub l s, h => by unfold Lab.re; rw [Lab.re_eq f (l := l) h]
  | .amb, h => h
  | .slot i, h => h
  | .tmp, h => h
section
variable {g : Ga} {om om' : Om} {H : Hp}
theorem OwnF.relab {f : Lab → Lab} (hh : hide om' H = hide om H) {l : Lab} (k : ∀ a s, om a = some (.sub l s) → om' a = some (.sub (l.re f) s)) : ∀ {s : Str} {o : F} {v : V}, OwnF g om H (.sub l s) o v → OwnF g om' H (.sub (l.re f) s) o v
  | s, .fz d, v, h => by show Hd g (hide om' H) d v; rw [hh]; exact h
  | s, .lst ds, v, ⟨p, xs, h1, h2, h3, h4⟩ => ⟨p, xs, h1, k _ _ h2, h3, by rw [hh]; exact h4⟩
  | s, .dct ds, v, ⟨p, xs, h1, h2, h3, h4⟩ => ⟨p, xs, h1, k _ _ h2, h3, by rw [hh]; exact h4⟩
theorem OwnFs.relab {f : Lab → Lab} (hh : hide om' H = hide om H) {l : Lab} (k : ∀ a s, om a = some (.sub l s) → om' a = some (.sub (l.re f) s)) : ∀ {fs : List (Str × F)} {ws : List (Str × V)}, OwnFs g om H l fs ws → OwnFs g om' H (l.re f) fs ws
  | [], ws, h => h
  | (s, o) :: fs, ws, ⟨v, vs, h1, h2, h3⟩ => ⟨v, vs, h1, OwnF.relab hh k h2, OwnFs.relab hh k h3⟩
theorem Own.relab {f : Lab → Lab} (hh : hide om' H = hide om H) {l : Lab} (k : ∀ a l', om a = some l' → l'.root = l.root → om' a = some (l'.re f)) : ∀ {o : O} {v : V}, Own g om H l o v → Own g om' H (l.re f) o v
  | .lst ds, v, ⟨p, xs, h1, h2, h3, h4⟩ => ⟨p, xs, h1, k _ _ h2 rfl, h3, by rw [hh]; exact h4⟩
  | .dct ds, v, ⟨p, xs, h1, h2, h3, h4⟩ => ⟨p, xs, h1, k _ _ h2 rfl, h3, by rw [hh]; exact h4⟩
  | .obj n fs, v, ⟨p, C, dx, ws, h1, h2, h3, h4, h5⟩ => ⟨p, C, dx, ws, h1, k _ _ h2 rfl, h3, h4, h5.relab hh fun a s e => k a _ e rfl⟩
end
theorem hide_none {om om' : Om} {H : Hp} (h : ∀ a, om a = none ↔ om' a = none) : hide om' H = hide om H := by
  funext a
  unfold hide
  cases h1 : om a with
  | none => rw [(h a).mp h1]
  | some l =>
    cases h2 : om' a with
    | none => rw [(h a).mpr h2] at h1; cases h1
    | some l' => rfl

/-! ### the promise of a def -/
inductive CallR where | ok (r : R) (out : Option O) | rs (x : Exc) (out : Option O) | stuck
def P.s : P → S
  | .fz d => .fz d
  | .bor _ o => .rd o
def ArgOk (g : Ga) (om : Om) (H : Hp) (i : Nat) (v : V) : S → Prop
  | .un => False
  | .pin w => v = w
  | .fz d => Hd g (hide om H) d v
  | .rd o => ∃ l, l.root = .amb ∧ Own g om H l o v
  | .ow _ => False
  | .mu o => i = 0 ∧ Own g om H (.slot 0) o v
def ArgsOk (g : Ga) (om : Om) (H : Hp) : Nat → List S → List V → Prop
  | _, [], vs => vs = []
  | i, s :: ss, vs => ∃ v r, vs = v :: r ∧ ArgOk g om H i v s ∧ ArgsOk g om H (i + 1) ss r
def OutOk (g : Ga) (om : Om) (H : Hp) (v0 : Option V) : Option O → Prop
  | none => True
  | some o => ∃ v, v0 = some v ∧ Own g om H (.slot 0) o v
def CLands (r : CallR) (A : R → Option O → Prop) (B : Exc → Option O → Prop) : Prop := match r with
  | .ok r out => A r out
  | .rs x out => B x out
  | .stuck => False
def spF (g : Ga) (mf : List S → CallR) : Sp := fun vs H Q E => ∃ om args, (∀ a l, om a = some l → ∃ o, H a = some o) ∧ (∀ a l, om a = some l → l.root ≠ .tmp) ∧ ArgsOk g om H 0 args vs ∧
  CLands (mf args) (fun r out => ∀ v om' H', Keep om H om' H' → (∀ a l, om' a = some l → ∃ o, H' a = some o) → ROk g om' H' r v → OutOk g om' H' vs.head? out → Q v H')
    (fun x out => ∀ c d om' H', Keep om H om' H' → (∀ a l, om' a = some l → ∃ o, H' a = some o) → ExOk g om' H' x c d → OutOk g om' H' vs.head? out → E c d H')

def toAmb : Lab → Lab := fun _ => .amb
theorem args_of {g : Ga} {om om' : Om} {H : Hp} (hh : hide om' H = hide om H) (k : ∀ a l, om a = some l → om' a = some (l.re toAmb)) : ∀ {i : Nat} {ps : List P} {vs : List V}, PsOk g om H ps vs → ArgsOk g om' H i (ps.map P.s) vs
  | i, [], vs, h => h
  | i, .fz d :: ps, vs, ⟨v, r, h1, h2, h3⟩ => ⟨v, r, h1, by show Hd g (hide om' H) d v; rw [hh]; exact h2, args_of hh k h3⟩
  | i, .bor l o :: ps, vs, ⟨v, r, h1, ⟨_, l', _, h4⟩, h3⟩ => ⟨v, r, h1, ⟨l'.re toAmb, Lab.re_root _ (fun _ => rfl) _, h4.relab hh fun a s e _ => k a s e⟩, args_of hh k h3⟩

section
variable {X : Cx} {Z : Zc} {W : WX} {e a b c o : Expr} {es : List Expr} {pos p p2 apos : Pos} {ma mb : Env → Res P} {mr : Env → Res (List P)} {om : Om} {env : Env} {σ : L2.St} {H : Hp}

/-- behind a call whose arguments are only read -/
theorem pure_back {om om0 om' : Om} {H H' : Hp} (tr : ∀ a l, om a = some l → ∃ o, H a = some o) (nt : ∀ a l, om a = some l → l.root ≠ .tmp)
    (h0 : ∀ a l, om a = some l → om0 a = some (l.re toAmb)) (h1 : ∀ a, om a = none → om0 a = none) (k : Keep om0 H om' H') (tr' : ∀ a l, om' a = some l → ∃ o, H' a = some o) :
    Same H H' ∧ Same (hide om' H') (hide om H') ∧ ∃ om2, New om H om2 H' ∧ ∀ r v, ROk Z.g om' H' r v → (∀ l o, r ≠ .bor l o) → ROk Z.g om2 H' r v := by
  have amb : ∀ a l, om a = some l → om' a = some (l.re toAmb) ∧ H' a = H a := fun a l e => k.am a _ (h0 a l e) (Lab.re_root _ (fun _ => rfl) _)
  have old : ∀ a, om a = none → H a ≠ none → om' a = none ∧ H' a = H a := fun a e hn => by
    cases q : H a with
    | none => exact absurd q hn
    | some o =>
      obtain ⟨z1, z2⟩ := hide_iff.mp (k.st a o (hide_iff.mpr ⟨h1 a e, q⟩))
      exact ⟨z1, z2⟩
  have same : Same H H' := fun a o q => by
    cases e : om a with
    | none => rw [(old a e (by rw [q]; exact fun z => by cases z)).2]; exact q
    | some l => rw [(amb a l e).2]; exact q
  refine ⟨same, fun a o q => ?_, ?_⟩
  · obtain ⟨q1, q2⟩ := hide_iff.mp q
    refine hide_iff.mpr ⟨?_, q2⟩
    cases e : om a with
    | none => rfl
    | some l => rw [(amb a l e).1] at q1; cases q1
  · classical
    refine ⟨fun a => if H a = none then (match om' a with
      | some l => if l.root = .tmp then some l else none
      | none => none) else om a, ⟨same, fun a l e => ?_, fun a l e => ?_⟩, fun r v ro nb => ?_⟩
    · obtain ⟨o, q⟩ := tr a l e
      show (if H a = none then _ else om a) = some l
      rw [if_neg (by rw [q]; exact fun z => by cases z)]
      exact e
    · have e' : (if H a = none then (match om' a with
        | some l => if l.root = .tmp then some l else none
        | none => none) else om a) = some l := e
      by_cases hn : H a = none
      · rw [if_pos hn] at e'
        cases q : om' a with
        | none => rw [q] at e'; cases e'
        | some l' =>
          rw [q] at e'
          simp only at e'
          split at e'
          · rename_i ht
            cases e'
            exact .inr ⟨hn, ht, tr' a _ q⟩
          · cases e'
      · rw [if_neg hn] at e'
        exact .inl e'
    · have sub : Same (hide om' H') (hide (fun a => if H a = none then (match om' a with
          | some l => if l.root = .tmp then some l else none
          | none => none) else om a) H') := fun a o q => by
        obtain ⟨q1, q2⟩ := hide_iff.mp q
        refine hide_iff.mpr ⟨?_, q2⟩
        show (if H a = none then _ else om a) = none
        by_cases hn : H a = none
        · rw [if_pos hn, q1]
        · rw [if_neg hn]
          cases e : om a with
          | none => rfl
          | some l => rw [(amb a l e).1] at q1; cases q1
      cases r with
      | fz d => exact Hd.mono sub ro
      | bor l o => exact absurd rfl (nb l o)
      | tmp o =>
        refine Own.mono (r := .tmp) sub (fun a l q ht => ⟨?_, rfl⟩) rfl ro
        show (if H a = none then _ else om a) = some l
        by_cases hn : H a = none
        · rw [if_pos hn, q]
          simp only
          rw [if_pos ht]
        · exfalso
          cases e : om a with
          | none => rw [(old a e hn).1] at q; cases q
          | some l' =>
            rw [(amb a l' e).1] at q
            cases q
            have z := Lab.re_root toAmb (fun _ => rfl) l'
            rw [ht] at z
            cases z

/-- what comes back of a call, as a mirror's answer -/
def mRun (r : CallR) : Res R := match r with
  | .ok (.bor _ _) _ => .stuck
  | .ok r _ => .ok r
  | .rs x _ => .rs x
  | .stuck => .stuck
def mCall (mf : List S → CallR) (mr : Env → Res (List P)) : Env → Res R := fun env => (mr env).bind fun ps => mRun (mf (ps.map P.s))
theorem call_sp {mf : List S → CallR} {Q : VK} {H0 : Hp} {ps : List P} {vs : List V} (rl : Rel Z om σ H env) (e0 : Same H0 H) (po : PsOk Z.g om H ps vs)
    (q : Lands (mRun (mf (ps.map P.s))) (fun r => ∀ v om' H', New om H0 om' H' → ROk Z.g om' H' r v → Q v H') (fun x => ∀ c d H', Same H0 H' → ExOk Z.g om H' x c d → W c d σ H'))
    (tr0 : ∀ a l, om a = some l → ∃ o, H0 a = some o) : spF Z.g mf vs H Q (WE W σ) := by
  have hh : hide (fun a => (om a).map fun l => l.re toAmb) H = hide om H := hide_none fun a => by cases om a <;> simp
  have h0 : ∀ a l, om a = some l → (fun a => (om a).map fun l => l.re toAmb) a = some (l.re toAmb) := fun a l z => by simp [z]
  have h1 : ∀ a, om a = none → (fun a => (om a).map fun l => l.re toAmb) a = none := fun a z => by simp [z]
  refine ⟨fun a => (om a).map fun l => l.re toAmb, ps.map P.s, fun a l z => ?_, fun a l z => ?_, args_of hh h0 po, ?_⟩
  · cases y : om a with
    | none => simp [y] at z
    | some l' => exact rl.tr a l' y
  · cases y : om a with
    | none => simp [y] at z
    | some l' =>
      simp only [y, Option.map_some, Option.some.injEq] at z
      rw [← z, Lab.re_root _ (fun _ => rfl)]
      exact fun w => by cases w
  · cases hm : mf (ps.map P.s) with
    | stuck => rw [hm] at q; exact q
    | rs x out =>
      rw [hm] at q
      intro c d om' H' k tr' ex _
      obtain ⟨s1, s2, _⟩ := pure_back (Z := Z) rl.tr rl.nt h0 h1 k tr'
      refine q c d H' (e0.trans s1) ?_
      obtain ⟨C, x1, x2, x3⟩ := ex
      refine ⟨C, x1, x2, ?_⟩
      cases hf : x.fs with
      | none => rw [hf] at x3; exact x3
      | some fs =>
        rw [hf] at x3
        obtain ⟨dd, ws, y1, y2, y3⟩ := x3
        exact ⟨dd, ws, y1, y2, Hfs.mono s2 y3⟩
    | ok r out =>
      rw [hm] at q
      intro v om' H' k tr' ro _
      cases r with
      | bor l o => exact q.elim
      | fz d =>
        obtain ⟨s1, s2, om2, n, hr⟩ := pure_back (Z := Z) rl.tr rl.nt h0 h1 k tr'
        exact q v om2 H' ⟨e0.trans s1, n.old, fun a l z => (n.new a l z).imp id fun ⟨y, z⟩ => ⟨e0.free y, z⟩⟩ (hr _ _ ro fun l o => by intro z; cases z)
      | tmp o =>
        obtain ⟨s1, s2, om2, n, hr⟩ := pure_back (Z := Z) rl.tr rl.nt h0 h1 k tr'
        exact q v om2 H' ⟨e0.trans s1, n.old, fun a l z => (n.new a l z).imp id fun ⟨y, z⟩ => ⟨e0.free y, z⟩⟩ (hr _ _ ro fun l o => by intro z; cases z)

/-- a def that keeps its promise, by its module's name -/
def Cl (P : Program) (w : World) (g : Ga) (base : Heap) (k : Nat) (x : Str) (mf : List S → CallR) : Prop :=
  ∃ f fd ps, FnOk P w g.K g.mg base (L2.CX P w) k f fd ps (spF g mf) ∧ g.mg x = some (.ref f) ∧ PySem.W.keepIn g.K (.ref f) = true ∧ Binds g.K fd ps []
theorem r_call (kx : Kx X Z W) {mf : List S → CallR} {x : Str} {k : Nat} (F : Cl X.prog X.w Z.g X.base k x mf) (hr : Room k X.A) (ha : PA X (e :: es) (tA Z W mr)) (hg : Gl X x := by rfl) (hdb : (x == ("__debug__" : Str)) = false := by decide)
    (he : starEach (e :: es) X.env = (false, eval e X.env) :: starEach es X.env := by rfl) (hpl : (backTo pos (starEach es X.env)).any (·.1) = false := by rfl) : PE X (.Call (.Name x p) (e :: es) [] pos) (tO Z W (mCall mf mr)) := by
  obtain ⟨f, fd, ps, F1, F2, F3, F4⟩ := F
  rw [kx.gK, kx.gm] at F1
  rw [kx.gm] at F2
  rw [kx.gK] at F3 F4
  refine (pe_callS F1 hr hg F2 F3 F4 kx.esc ha hdb he hpl).pimp fun σ H Q ⟨om, env, rl, q⟩ => ?_
  unfold mCall at q
  refine ⟨om, env, rl, ?_⟩
  cases hm : mr env with
  | stuck => rw [hm] at q; exact q
  | rs x => rw [hm] at q; exact q
  | ok y =>
    rw [hm] at q
    simp only [Res.bind] at q
    exact fun vs H1 e1 po => call_sp (rl.grow e1) e1 po q rl.tr

/-! methods -/
theorem pe_methS {k : Nat} {f C : Addr} {fd : FuncData} {ps : List Str} {sp : Sp} {E : L2.St → XK} {m : Str} {ta : TE} {t : TA} {pl : Sem Bool} (he : PE X o ta) (c : Cls X.K C) (hm : Meth X.K C m f) (F : FnOk X.prog X.w X.K X.mg X.base (L2.CX X.prog X.w) k f fd ps sp) (hr : Room k X.A) (hb : Binds X.K fd ps []) (hx : ∀ σ, PassesAt (L2.CX X.prog X.w) X σ (E σ)) (ha : PA X (e :: es) t)
    (hst : starEach (e :: es) X.env = (false, eval e X.env) :: starEach es X.env := by rfl) (hpl : (backTo pos (starEach es X.env)).any (·.1) = false := by rfl)
    (ht : eval (.Call (.Attribute o m apos) (e :: es) [] pos) X.env = (do
      let ov ← eval o X.env
      standAt apos.atName
      let (f, first) ← holding [ov] (getMethod ov m pl)
      callWith pos f first (backTo pos (starEach (e :: es) X.env)) (backToKw pos (keywordEach [] X.env))) := by rfl) :
    PE X (.Call (.Attribute o m apos) (e :: es) [] pos) (fun σ H Q => ta σ H fun x H1 => ∃ a dx fs, x = .ref a ∧ H1 a = some (.ins C dx fs) ∧ fs.lookup m = none ∧ t σ H1 fun vs H2 => sp (x :: vs) H2 Q (E σ)) := by
  refine ⟨fun pins s σ H Q I h => ?_⟩
  refine PySem.W.methodCall_KW (pl := pl) (thn (he.run pins s σ H _ I h) fun u s1 ⟨x, H1, I1, rx, a, dx, fs, ex, ea, l, q⟩ => ?_) ht
  subst ex
  obtain rfl : u = Value.ref a := rx
  refine getmeth_ok I1 ea c hm l ?_
  refine PySem.W.callWith_K (first := [.ref a]) (h₀ := X.base) I.ok.mod.kin hm.kp (thn (ha.run pos pins s1 σ H1 _ I1 q) fun us s2 ⟨vs, H2, I2, r, q2⟩ => ⟨I2.kIn, ?_⟩) hst hpl
  exact run_fnS (us := .ref a :: us) (vs := .ref a :: vs) F hr hb (hx σ) I2 (.cons rfl r) q2
theorem pe_meth0S {k : Nat} {f C : Addr} {fd : FuncData} {ps : List Str} {sp : Sp} {E : L2.St → XK} {m : Str} {ta : TE} {pl : Sem Bool} (he : PE X o ta) (c : Cls X.K C) (hm : Meth X.K C m f) (F : FnOk X.prog X.w X.K X.mg X.base (L2.CX X.prog X.w) k f fd ps sp) (hr : Room k X.A) (hb : Binds X.K fd ps []) (hx : ∀ σ, PassesAt (L2.CX X.prog X.w) X σ (E σ))
    (ht : eval (.Call (.Attribute o m apos) [] [] pos) X.env = (do
      let ov ← eval o X.env
      standAt apos.atName
      let (f, first) ← holding [ov] (getMethod ov m pl)
      callWith pos f first (backTo pos (starEach [] X.env)) (backToKw pos (keywordEach [] X.env))) := by rfl) :
    PE X (.Call (.Attribute o m apos) [] [] pos) (fun σ H Q => ta σ H fun x H1 => ∃ a dx fs, x = .ref a ∧ H1 a = some (.ins C dx fs) ∧ fs.lookup m = none ∧ sp [x] H1 Q (E σ)) := by
  refine ⟨fun pins s σ H Q I h => ?_⟩
  refine PySem.W.methodCall_KW (pl := pl) (thn (he.run pins s σ H _ I h) fun u s1 ⟨x, H1, I1, rx, a, dx, fs, ex, ea, l, q⟩ => ?_) ht
  subst ex
  obtain rfl : u = Value.ref a := rx
  refine getmeth_ok I1 ea c hm l ?_
  exact PySem.W.callWith_K0 (first := [.ref a]) I1.kIn hm.kp (run_fnS (us := [.ref a]) (vs := [.ref a]) F hr hb (hx σ) I1 (.cons rfl .nil) q)
/-- an object: its class's name and the names of its fields -/
def P.obj? : P → Option (Str × List Str)
  | .fz (.obj n fs) => some (n, fs.map (·.1))
  | .bor _ (.obj n fs) => some (n, fs.map (·.1))
  | _ => none
theorem Hfs.keys {g : Ga} {H : Hp} : ∀ {fs : List (Str × D)} {ws : List (Str × V)}, Hfs g H fs ws → fs.map (·.1) = ws.map (·.1)
  | [], ws, h => by unfold Hfs at h; rw [h]; rfl
  | (f, d) :: fs, ws, h => by
    unfold Hfs at h
    obtain ⟨v, vs, rfl, _, h3⟩ := h
    simp [Hfs.keys h3]
theorem OwnFs.keys {g : Ga} {om : Om} {H : Hp} {l : Lab} : ∀ {fs : List (Str × F)} {ws : List (Str × V)}, OwnFs g om H l fs ws → fs.map (·.1) = ws.map (·.1)
  | [], ws, h => by rw [show ws = [] from h]; rfl
  | (f, d) :: fs, ws, ⟨v, vs, h1, _, h3⟩ => by subst h1; simp [OwnFs.keys h3]
theorem POk.obj {g : Ga} {x : P} {v : V} {n : Str} {ks : List Str} (h : POk g om H x v) (e : x.obj? = some (n, ks)) : ∃ a C dx ws, v = .ref a ∧ g.mg n = some (.ref C) ∧ H a = some (.ins C dx ws) ∧ ws.map (·.1) = ks := by
  cases x with
  | fz d =>
    cases d <;> simp [P.obj?] at e
    obtain ⟨rfl, rfl⟩ := e
    simp only [POk, Hd] at h
    obtain ⟨a, C, dx, ws, h1, h2, h3, h4⟩ := h
    exact ⟨a, C, dx, ws, h1, h2, hide_same _ _ h3, h4.keys.symm⟩
  | bor l o =>
    cases o <;> simp [P.obj?] at e
    obtain ⟨rfl, rfl⟩ := e
    obtain ⟨_, _, _, a, C, dx, ws, h1, _, h2, h3, h4⟩ := h
    exact ⟨a, C, dx, ws, h1, h2, h3, h4.keys.symm⟩
theorem lookup_none_of {α : Type} {m : Str} : ∀ {ws : List (Str × α)}, m ∉ ws.map (·.1) → ws.lookup m = none
  | [], _ => rfl
  | (k, v) :: ws, h => by
    simp only [List.map_cons, List.mem_cons, not_or] at h
    rw [List.lookup_cons]
    have : (m == k) = false := by simpa using h.1
    rw [this]
    exact lookup_none_of h.2
structure Clm (P : Program) (w : World) (g : Ga) (base : Heap) (k : Nat) (n m : Str) (mf : List S → CallR) : Prop where
  ex : ∃ C f fd ps, g.mg n = some (.ref C) ∧ Cls g.K C ∧ Meth g.K C m f ∧ FnOk P w g.K g.mg base (L2.CX P w) k f fd ps (spF g mf) ∧ Binds g.K fd ps []
/-- is it an object of the class, with no such field -/
def isObj (n m : Str) (x : P) : Bool := match x.obj? with
  | some (n', ks) => decide (n' = n) && decide (m ∉ ks)
  | none => false
theorem isObj_ok {g : Ga} {x : P} {v : V} {n m : Str} {C : Addr} (h : POk g om H x v) (e : isObj n m x = true) (hC : g.mg n = some (.ref C)) : ∃ a dx ws, v = .ref a ∧ H a = some (.ins C dx ws) ∧ ws.lookup m = none := by
  unfold isObj at e
  cases ho : x.obj? with
  | none => rw [ho] at e; cases e
  | some q =>
    obtain ⟨n', ks⟩ := q
    rw [ho] at e
    simp only [Bool.and_eq_true, decide_eq_true_eq] at e
    obtain ⟨e1, e2⟩ := e
    subst e1
    obtain ⟨a, C', dx, ws, h1, h2, h3, h4⟩ := h.obj ho
    rw [hC] at h2
    cases h2
    exact ⟨a, dx, ws, h1, h3, lookup_none_of (by rw [h4]; exact e2)⟩
def mMeth (n m : Str) (mf : List S → CallR) (ma : Env → Res P) (mr : Env → Res (List P)) : Env → Res R := fun env => (ma env).bind fun x => if isObj n m x = true then (mr env).bind fun ps => mRun (mf (x.s :: ps.map P.s)) else .stuck
theorem r_meth (kx : Kx X Z W) {mf : List S → CallR} {n m : Str} {k : Nat} (F : Clm X.prog X.w Z.g X.base k n m mf) (hr : Room k X.A) (ho : PE X o (tP Z W ma)) (ha : PA X (e :: es) (tA Z W mr)) {pl : Sem Bool}
    (hst : starEach (e :: es) X.env = (false, eval e X.env) :: starEach es X.env := by rfl) (hpl : (backTo pos (starEach es X.env)).any (·.1) = false := by rfl)
    (ht : eval (.Call (.Attribute o m apos) (e :: es) [] pos) X.env = (do
      let ov ← eval o X.env
      standAt apos.atName
      let (f, first) ← holding [ov] (getMethod ov m pl)
      callWith pos f first (backTo pos (starEach (e :: es) X.env)) (backToKw pos (keywordEach [] X.env))) := by rfl) :
    PE X (.Call (.Attribute o m apos) (e :: es) [] pos) (tO Z W (mMeth n m mf ma mr)) := by
  obtain ⟨C, f, fd, ps, F1, F2, F3, F4, F5⟩ := F.ex
  rw [kx.gK] at F2 F3 F5
  rw [kx.gK, kx.gm] at F4
  refine (pe_methS ho F2 F3 F4 hr F5 kx.esc ha hst hpl ht).pimp fun σ H Q ⟨om, env, rl, q⟩ => ?_
  unfold mMeth at q
  refine ⟨om, env, rl, ?_⟩
  cases hm : ma env with
  | stuck => rw [hm] at q; exact q
  | rs x => rw [hm] at q; exact q
  | ok x =>
    rw [hm] at q
    simp only [Res.bind] at q
    intro v H1 e1 p1
    by_cases hi : isObj n m x = true
    · rw [if_pos hi] at q
      obtain ⟨a, dx, ws, h1, h2, h3⟩ := isObj_ok p1 hi F1
      refine ⟨a, dx, ws, h1, h2, h3, ?_⟩
      refine ⟨om, env, rl.grow e1, ?_⟩
      cases hr : mr env with
      | stuck => rw [hr] at q; exact q
      | rs x => rw [hr] at q; exact fun c d H' e2 => q c d H' (e1.trans e2)
      | ok y =>
        rw [hr] at q
        exact fun vs H2 e2 po => call_sp (ps := x :: y) (rl.grow (e1.trans e2)) (e1.trans e2) ⟨v, vs, rfl, p1.grow (rl.grow e1).tr e2, po⟩ q rl.tr
    · rw [if_neg hi] at q
      exact q.elim
theorem r_meth0 (kx : Kx X Z W) {mf : List S → CallR} {n m : Str} {k : Nat} (F : Clm X.prog X.w Z.g X.base k n m mf) (hr : Room k X.A) (ho : PE X o (tP Z W ma)) {pl : Sem Bool}
    (ht : eval (.Call (.Attribute o m apos) [] [] pos) X.env = (do
      let ov ← eval o X.env
      standAt apos.atName
      let (f, first) ← holding [ov] (getMethod ov m pl)
      callWith pos f first (backTo pos (starEach [] X.env)) (backToKw pos (keywordEach [] X.env))) := by rfl) :
    PE X (.Call (.Attribute o m apos) [] [] pos) (tO Z W (mMeth n m mf ma mNil)) := by
  obtain ⟨C, f, fd, ps, F1, F2, F3, F4, F5⟩ := F.ex
  rw [kx.gK] at F2 F3 F5
  rw [kx.gK, kx.gm] at F4
  refine (pe_meth0S ho F2 F3 F4 hr F5 kx.esc ht).pimp fun σ H Q ⟨om, env, rl, q⟩ => ?_
  unfold mMeth at q
  refine ⟨om, env, rl, ?_⟩
  cases hm : ma env with
  | stuck => rw [hm] at q; exact q
  | rs x => rw [hm] at q; exact q
  | ok x =>
    rw [hm] at q
    simp only [Res.bind] at q
    intro v H1 e1 p1
    by_cases hi : isObj n m x = true
    · rw [if_pos hi] at q
      obtain ⟨a, dx, ws, h1, h2, h3⟩ := isObj_ok p1 hi F1
      exact ⟨a, dx, ws, h1, h2, h3, call_sp (ps := [x]) (rl.grow e1) e1 ⟨v, [], rfl, p1, rfl⟩ q rl.tr⟩
    · rw [if_neg hi] at q
      exact q.elim

/-! a new instance -/
theorem pe_makeS {k : Nat} {f C : Addr} {fd : FuncData} {ps : List Str} {sp : Sp} {E : L2.St → XK} {x : Str} {t : TA} (M : Mk X.K C f) (F : FnOk X.prog X.w X.K X.mg X.base (L2.CX X.prog X.w) k f fd ps sp) (hr : Room (k + 1) X.A) (hg : Gl X x) (hm : X.mg x = some (.ref C)) (hb : Binds X.K fd ps []) (hx : ∀ σ, PassesAt (L2.CX X.prog X.w) X σ (E σ))
    (ha : PA X (e :: es) t) (hdb : (x == ("__debug__" : Str)) = false := by decide) (he : starEach (e :: es) X.env = (false, eval e X.env) :: starEach es X.env := by rfl) (hpl : (backTo pos (starEach es X.env)).any (·.1) = false := by rfl) :
    PE X (.Call (.Name x p) (e :: es) [] pos) (fun σ H Q => t σ H fun vs H1 => ∀ x dx, H1 x = none → H1 dx = none → dx ≠ x → sp (.ref x :: vs) (upd (upd H1 dx (.own x)) x (.ins C dx [])) (fun v H2 => v = .non ∧ Q (.ref x) H2) (E σ)) := by
  refine ⟨fun pins s σ H Q I h => ?_⟩
  refine wpAny_Call_Name_kw (ld_glob I hg hm ?_ hdb)
  refine PySem.W.callWith_K (h₀ := X.base) I.ok.mod.kin M.kp (thn (ha.run pos pins s σ H _ I h) fun us s1 ⟨vs, H1, I1, r, q⟩ => ⟨I1.kIn, ?_⟩) he hpl
  have hq := q (s1.heap.objs.size + 1) s1.heap.objs.size (I1.hok.fresh (Nat.le_succ _)) (I1.hok.fresh (Nat.le_refl _)) (Nat.ne_of_lt (Nat.lt_succ_self _))
  have I2 := Inv.made (C := C) I1
  have r2 : Vals (V.ref (s1.heap.objs.size + 1) :: vs) (Value.ref (s1.heap.objs.size + 1) :: us) := .cons rfl r
  have hl : (Value.ref (s1.heap.objs.size + 1) :: us).length = ps.length := by
    have e := r2.length
    rw [F.len _ _ _ _ hq] at e
    exact e.symm
  have hb2 := hb _ (Value.ref (s1.heap.objs.size + 1) :: us) I2.kIn (by rw [List.append_nil]; exact hl)
  rw [List.append_nil] at hb2
  refine wpAny_call (make_map (f := f) I1.kIn M.makes M.init (beq_iff_eq.mp M.fn) (codeAny_mono (F.run _ X.stack _ _ ⟨Value.ref (s1.heap.objs.size + 1) :: us, []⟩ (Value.ref (s1.heap.objs.size + 1) :: us) _ _ (E σ) (hr.make C us [])
    (I2.env0.make C us []) hb2 r2 hq) fun r s' hq' => ?_))
  cases r with
  | error e => exact hx σ pins _ _ e s' I2 hq'
  | ok fl =>
    cases fl with
    | ret u =>
      obtain ⟨v, H', I3, rv, ev, q3⟩ := I2.after hq'
      subst ev
      exact ⟨rv, ⟨V.ref (s1.heap.objs.size + 1), H', I3, rfl, q3⟩⟩
    | next => exact False.elim hq'
    | brk => exact False.elim hq'
    | cont => exact False.elim hq'
structure Clc (P : Program) (w : World) (g : Ga) (base : Heap) (k : Nat) (n : Str) (mf : List S → CallR) : Prop where
  ex : ∃ C f fd ps, g.mg n = some (.ref C) ∧ Mk g.K C f ∧ FnOk P w g.K g.mg base (L2.CX P w) k f fd ps (spF g mf) ∧ Binds g.K fd ps []
def mMade (r : CallR) : Res R := match r with
  | .ok (.fz .non) (some o) => .ok (.tmp o)
  | .rs x _ => .rs x
  | _ => .stuck
def mMake (n : Str) (mf : List S → CallR) (mr : Env → Res (List P)) : Env → Res R := fun env => (mr env).bind fun ps => mMade (mf (.mu (.obj n []) :: ps.map P.s))
def toTmp : Lab → Lab
  | .slot _ => .tmp
  | .sub l s => .sub l s
  | l => l
theorem r_make (kx : Kx X Z W) {mf : List S → CallR} {n : Str} {k : Nat} (F : Clc X.prog X.w Z.g X.base k n mf) (hr : Room (k + 1) X.A) (ha : PA X (e :: es) (tA Z W mr)) (hg : Gl X n := by rfl) (hdb : (n == ("__debug__" : Str)) = false := by decide)
    (he : starEach (e :: es) X.env = (false, eval e X.env) :: starEach es X.env := by rfl) (hpl : (backTo pos (starEach es X.env)).any (·.1) = false := by rfl) :
    PE X (.Call (.Name n p) (e :: es) [] pos) (tO Z W (mMake n mf mr)) := by
  obtain ⟨C, f, fd, ps, F1, F2, F4, F5⟩ := F.ex
  rw [kx.gK] at F2 F5
  rw [kx.gK, kx.gm] at F4
  have F1' := F1
  rw [kx.gm] at F1'
  refine (pe_makeS F2 F4 hr hg F1' F5 kx.esc ha hdb he hpl).pimp fun σ H Q ⟨om, env, rl, q⟩ => ?_
  unfold mMake at q
  refine ⟨om, env, rl, ?_⟩
  cases hm : mr env with
  | stuck => rw [hm] at q; exact q
  | rs x => rw [hm] at q; exact q
  | ok y =>
    rw [hm] at q
    simp only [Res.bind] at q
    intro vs H1 e1 po x dx hx hdx hne
    have rl1 := rl.grow e1
    have ox : om x = none := om_none rl1.tr hx
    have odx : om dx = none := om_none rl1.tr hdx
    have sn : Same H1 (upd (upd H1 dx (.own x)) x (.ins C dx [])) := fun a u q => by rw [upd_ne (ne_of_none q hx), upd_ne (ne_of_none q hdx)]; exact q
    have pog : PsOk Z.g om (upd (upd H1 dx (.own x)) x (.ins C dx [])) y vs := po.grow rl1.tr sn
    have h0 : ∀ a l, om a = some l → lab (fun a => (om a).map fun l => l.re toAmb) x (.slot 0) a = some (l.re toAmb) := fun a l z => by
      rw [lab_ne (fun w => by subst w; rw [ox] at z; cases z), z]; rfl
    have h1 : ∀ a, a ≠ x → om a = none → lab (fun a => (om a).map fun l => l.re toAmb) x (.slot 0) a = none := fun a w z => by rw [lab_ne w, z]; rfl
    have hh : hide (fun a => (om a).map fun l => l.re toAmb) (upd (upd H1 dx (.own x)) x (.ins C dx [])) = hide om (upd (upd H1 dx (.own x)) x (.ins C dx [])) := hide_none fun a => by cases om a <;> simp
    -- the arguments in the callee's labelling: x itself hidden
    have hx2 : ∀ a u, hide om H1 a = some u → hide (lab (fun a => (om a).map fun l => l.re toAmb) x (.slot 0)) (upd (upd H1 dx (.own x)) x (.ins C dx [])) a = some u := fun a u z => by
      obtain ⟨z1, z2⟩ := hide_iff.mp z
      have hax : a ≠ x := ne_of_none z2 hx
      exact hide_iff.mpr ⟨h1 a hax z1, by rw [upd_ne hax, upd_ne (ne_of_none z2 hdx)]; exact z2⟩
    have args : ∀ {i : Nat} {ps : List P} {vs : List V}, PsOk Z.g om H1 ps vs → ArgsOk Z.g (lab (fun a => (om a).map fun l => l.re toAmb) x (.slot 0)) (upd (upd H1 dx (.own x)) x (.ins C dx [])) i (ps.map P.s) vs := by
      intro i ps
      induction ps generalizing i with
      | nil => intro vs h; exact h
      | cons q ps ih =>
        intro vs h
        obtain ⟨v, r, h2, h3, h4⟩ := h
        refine ⟨v, r, h2, ?_, ih h4⟩
        cases q with
        | fz d => exact Hd.mono hx2 h3
        | bor l o =>
          obtain ⟨_, l', _, h5⟩ := h3
          refine ⟨l'.re toAmb, Lab.re_root _ (fun _ => rfl) _, ?_⟩
          have h6 : Own Z.g (fun a => (om a).map fun l => l.re toAmb) H1 (l'.re toAmb) o v := h5.relab (hide_none fun a => by cases om a <;> simp) fun a s e _ => by show (om a).map _ = _; rw [e]; rfl
          refine h6.mono (r := .amb) (fun a u z => hx2 a u ?_) (fun a s e _ => ?_) (Lab.re_root _ (fun _ => rfl) _)
          · rw [hide_none (om := om) (om' := fun a => (om a).map fun l => l.re toAmb) fun a => by cases om a <;> simp] at z
            exact z
          · cases w : om a with
            | none => have e' : (om a).map (fun l => l.re toAmb) = some s := e; rw [w] at e'; cases e'
            | some l0 =>
              have e' : (om a).map (fun l => l.re toAmb) = some s := e
              rw [w] at e'
              cases e'
              obtain ⟨u, z⟩ := rl1.tr a l0 w
              exact ⟨h0 a l0 w, by rw [upd_ne (ne_of_none z hx), upd_ne (ne_of_none z hdx)]⟩
    refine ⟨lab (fun a => (om a).map fun l => l.re toAmb) x (.slot 0), .mu (.obj n []) :: y.map P.s, fun a l z => ?_, fun a l z => ?_, ⟨_, _, rfl, ⟨rfl, x, C, dx, [], rfl, lab_same, F1, upd_same, rfl⟩, args po⟩, ?_⟩
    · by_cases w : a = x
      · subst w; exact ⟨_, upd_same⟩
      · rw [lab_ne w] at z
        cases y : om a with
        | none => simp [y] at z
        | some l' => obtain ⟨u, z⟩ := rl1.tr a l' y; exact ⟨u, sn a u z⟩
    · by_cases w : a = x
      · subst w; rw [lab_same] at z; cases z; exact fun w => by cases w
      · rw [lab_ne w] at z
        cases y : om a with
        | none => simp [y] at z
        | some l' =>
          simp only [y, Option.map_some, Option.some.injEq] at z
          rw [← z, Lab.re_root _ (fun _ => rfl)]
          exact fun w => by cases w
    · -- behind __init__
      have fact : ∀ om' H', Keep (lab (fun a => (om a).map fun l => l.re toAmb) x (.slot 0)) (upd (upd H1 dx (.own x)) x (.ins C dx [])) om' H' →
          (∀ a l, om a = some l → om' a = some (l.re toAmb) ∧ H' a = H1 a) ∧ (∀ a, om a = none → H1 a ≠ none → om' a = none ∧ H' a = H1 a) := fun om' H' k => by
        refine ⟨fun a l e => ?_, fun a e hn => ?_⟩
        · obtain ⟨u, z⟩ := rl1.tr a l e
          obtain ⟨z1, z2⟩ := k.am a _ (h0 a l e) (Lab.re_root _ (fun _ => rfl) _)
          exact ⟨z1, by rw [z2, upd_ne (ne_of_none z hx), upd_ne (ne_of_none z hdx)]⟩
        · cases q : H1 a with
          | none => exact absurd q hn
          | some u =>
            obtain ⟨z1, z2⟩ := hide_iff.mp (k.st a u (hx2 a u (hide_iff.mpr ⟨e, q⟩)))
            exact ⟨z1, z2⟩
      have same : ∀ om' H', Keep (lab (fun a => (om a).map fun l => l.re toAmb) x (.slot 0)) (upd (upd H1 dx (.own x)) x (.ins C dx [])) om' H' → Same H1 H' := fun om' H' k a u q => by
        obtain ⟨f1, f2⟩ := fact om' H' k
        cases e : om a with
        | none => rw [(f2 a e (by rw [q]; exact fun z => by cases z)).2]; exact q
        | some l => rw [(f1 a l e).2]; exact q
      cases hf : mf (.mu (.obj n []) :: y.map P.s) with
      | stuck => rw [hf] at q; exact q
      | rs z out =>
        rw [hf] at q
        intro c d om' H' k tr' ex _
        obtain ⟨f1, f2⟩ := fact om' H' k
        refine q c d H' (e1.trans (same om' H' k)) ?_
        obtain ⟨C, x1, x2, x3⟩ := ex
        refine ⟨C, x1, x2, ?_⟩
        cases hf : z.fs with
        | none => rw [hf] at x3; exact x3
        | some fs =>
          rw [hf] at x3
          obtain ⟨dd, ws, y1, y2, y3⟩ := x3
          refine ⟨dd, ws, y1, y2, Hfs.mono (fun a u w => ?_) y3⟩
          obtain ⟨q1, q2⟩ := hide_iff.mp w
          refine hide_iff.mpr ⟨?_, q2⟩
          cases e : om a with
          | none => rfl
          | some l => rw [(f1 a l e).1] at q1; cases q1
      | ok r out =>
        rw [hf] at q
        intro v om' H' k tr' ro oo
        cases r with
        | bor l o => exact q.elim
        | tmp o => exact q.elim
        | fz d =>
          cases d <;> try exact q.elim
          cases out with
          | none => exact q.elim
          | some o =>
            obtain ⟨f1, f2⟩ := fact om' H' k
            obtain ⟨w, hw, ow⟩ := oo
            cases hw
            refine ⟨by simpa [ROk, Hd] using ro, ?_⟩
            classical
            have fresh : ∀ a l, om' a = some l → l.root = .slot 0 → H1 a = none := fun a l e hr => by
              cases q : H1 a with
              | none => rfl
              | some u =>
                exfalso
                cases e2 : om a with
                | none => rw [(f2 a e2 (by rw [q]; exact fun z => by cases z)).1] at e; cases e
                | some l' =>
                  rw [(f1 a l' e2).1] at e
                  cases e
                  rw [Lab.re_root _ (fun _ => rfl)] at hr
                  cases hr
            refine q (.ref x) (fun a => if H1 a = none then (match om' a with
              | some l => if l.root = .slot 0 then some (l.re toTmp) else none
              | none => none) else om a) H' ⟨e1.trans (same om' H' k), fun a l e => ?_, fun a l e => ?_⟩ ?_
            · obtain ⟨u, z⟩ := rl1.tr a l e
              show (if H1 a = none then _ else om a) = some l
              rw [if_neg (by rw [z]; exact fun z => by cases z)]
              exact e
            · have e' : (if H1 a = none then (match om' a with
                | some l => if l.root = .slot 0 then some (l.re toTmp) else none
                | none => none) else om a) = some l := e
              by_cases hn : H1 a = none
              · rw [if_pos hn] at e'
                cases q : om' a with
                | none => rw [q] at e'; cases e'
                | some l' =>
                  rw [q] at e'
                  simp only at e'
                  split at e'
                  · rename_i ht
                    cases e'
                    refine .inr ⟨e1.free hn, ?_, tr' a _ q⟩
                    have z : ∀ l : Lab, l.root = .slot 0 → (l.re toTmp).root = .tmp := fun l => by
                      induction l with
                      | sub l s ih => exact ih
                      | amb => intro h; cases h
                      | slot i => intro h; rfl
                      | tmp => intro h; cases h
                    exact z l' ht
                  · cases e'
              · rw [if_neg hn] at e'
                exact .inl e'
            · -- the object, now temporarily owned
              show Own Z.g _ H' .tmp o (.ref x)
              have sub : Same (hide om' H') (hide (fun a => if H1 a = none then (match om' a with
                | some l => if l.root = .slot 0 then some (l.re toTmp) else none
                | none => none) else om a) H') := fun a u q => by
                obtain ⟨q1, q2⟩ := hide_iff.mp q
                refine hide_iff.mpr ⟨?_, q2⟩
                show (if H1 a = none then _ else om a) = none
                by_cases hn : H1 a = none
                · rw [if_pos hn, q1]
                · rw [if_neg hn]
                  cases e : om a with
                  | none => rfl
                  | some l => rw [(f1 a l e).1] at q1; cases q1
              -- first keep the labels, then change them
              have s1 : Own Z.g (fun a => if H1 a = none then (match om' a with
                | some l => if l.root = .slot 0 then some l else none
                | none => none) else (om a).map fun _ => Lab.amb) H' (.slot 0) o (.ref x) := by
                refine ow.mono (r := .slot 0) (fun a u q => ?_) (fun a l e hr => ⟨?_, rfl⟩) rfl
                · obtain ⟨q1, q2⟩ := hide_iff.mp (sub a u q)
                  refine hide_iff.mpr ⟨?_, q2⟩
                  have q1' : (if H1 a = none then (match om' a with
                    | some l => if l.root = .slot 0 then some (l.re toTmp) else none
                    | none => none) else om a) = none := q1
                  show (if H1 a = none then _ else _) = none
                  by_cases hn : H1 a = none
                  · rw [if_pos hn] at q1' ⊢
                    cases w : om' a with
                    | none => rfl
                    | some l =>
                      rw [w] at q1'
                      simp only at q1' ⊢
                      split at q1'
                      · cases q1'
                      · rename_i h; rw [if_neg h]
                  · rw [if_neg hn] at q1' ⊢
                    rw [q1']; rfl
                · show (if H1 a = none then _ else _) = some l
                  rw [if_pos (fresh a l e hr), e]
                  simp only
                  rw [if_pos hr]
              have s2 := s1.relab (f := toTmp) (om' := fun a => if H1 a = none then (match om' a with
                | some l => if l.root = .slot 0 then some (l.re toTmp) else none
                | none => none) else om a) (hide_none fun a => by
                  show (if H1 a = none then _ else _) = none ↔ (if H1 a = none then _ else om a) = none
                  by_cases hn : H1 a = none
                  · rw [if_pos hn, if_pos hn]
                    cases om' a with
                    | none => exact Iff.rfl
                    | some l =>
                      simp only
                      split <;> simp
                  · rw [if_neg hn, if_neg hn]
                    cases om a <;> simp) (fun a l e hr => by
                  have e' : (if H1 a = none then (match om' a with
                    | some l => if l.root = .slot 0 then some l else none
                    | none => none) else (om a).map fun _ => Lab.amb) = some l := e
                  show (if H1 a = none then _ else om a) = some (l.re toTmp)
                  by_cases hn : H1 a = none
                  · rw [if_pos hn] at e' ⊢
                    cases w : om' a with
                    | none => rw [w] at e'; cases e'
                    | some l0 =>
                      rw [w] at e'
                      simp only at e' ⊢
                      split at e'
                      · rename_i h
                        cases e'
                        rw [if_pos h]
                      · cases e'
                  · exfalso
                    rw [if_neg hn] at e'
                    cases w : om a with
                    | none => rw [w] at e'; cases e'
                    | some l0 => rw [w] at e'; cases e'; cases hr)
              exact s2

/-! attributes -/
def kAtt (n f : Str) : P → Option P
  | .fz (.obj n' fs) => if n' = n then (fs.lookup f).map P.fz else none
  | .bor l (.obj n' fs) => if n' = n then match fs.lookup f with
    | some (.fz d) => some (.fz d)
    | some (.lst ds) => some (.bor l (.lst ds))
    | some (.dct ds) => some (.bor l (.dct ds))
    | none => none
    else none
  | _ => none
theorem Hfs.look {g : Ga} {H : Hp} {f : Str} : ∀ {fs : List (Str × D)} {ws : List (Str × V)} {d : D}, Hfs g H fs ws → fs.lookup f = some d → ∃ v, ws.lookup f = some v ∧ Hd g H d v
  | [], ws, d, h, e => by cases e
  | (k, d0) :: fs, ws, d, h, e => by
    unfold Hfs at h
    obtain ⟨v, vs, rfl, h2, h3⟩ := h
    rw [List.lookup_cons] at e ⊢
    cases hb : f == k with
    | true => rw [hb] at e; cases e; exact ⟨v, rfl, h2⟩
    | false => rw [hb] at e; exact Hfs.look h3 e
theorem OwnFs.look {g : Ga} {om : Om} {H : Hp} {f : Str} {l : Lab} : ∀ {fs : List (Str × F)} {ws : List (Str × V)} {d : F}, OwnFs g om H l fs ws → fs.lookup f = some d → ∃ v, ws.lookup f = some v ∧ OwnF g om H (.sub l f) d v
  | [], ws, d, h, e => by cases e
  | (k, d0) :: fs, ws, d, ⟨v, vs, h1, h2, h3⟩, e => by
    subst h1
    rw [List.lookup_cons] at e ⊢
    cases hb : f == k with
    | true =>
      have : f = k := by simpa using hb
      subst this
      rw [hb] at e; cases e; exact ⟨v, rfl, h2⟩
    | false => rw [hb] at e; exact OwnFs.look h3 e
def mAtt (n f : Str) (ma : Env → Res P) : Env → Res P := one1 (kAtt n f) ma
theorem r_att (kx : Kx X Z W) {n f : Str} {C : Addr} (hC : Z.g.mg n = some (.ref C)) (c : Cls Z.g.K C) (na : NoAttr Z.g.K C f) (ho : PE X o (tP Z W ma)) (hb : attributeBase o f X.env (eval o X.env) = eval o X.env := by rfl) :
    PE X (.Attribute o f pos) (tP Z W (mAtt n f ma)) := (pe_fld ho hb).pimp fun σ H Q ⟨om, env, rl, q⟩ => by
  refine one (k := kAtt n f) (B := fun z H' => ∀ v, POk Z.g om H' z v → Q v H') rl ?_ fun x v H' e rl' p1 z hk qz => ?_
  · unfold mAtt at q
    cases hm : one1 (kAtt n f) ma env with
    | stuck => rw [hm] at q; exact q
    | rs x => rw [hm] at q; exact q
    | ok x => rw [hm] at q; exact fun H' e v hv => q v H' e hv
  · have qz := qz H' (Same.refl _)
    rw [kx.gK] at c na
    cases x with
    | fz d =>
      cases d <;> simp only [kAtt, reduceCtorEq] at hk
      split at hk
      · rename_i n' fs hn
        subst hn
        cases hl : fs.lookup f with
        | none => rw [hl] at hk; cases hk
        | some d =>
          rw [hl] at hk
          cases hk
          simp only [POk, Hd] at p1
          obtain ⟨a, C', dx, ws, h1, h2, h3, h4⟩ := p1
          rw [hC] at h2
          cases h2
          obtain ⟨u, h5, h6⟩ := h4.look hl
          exact ⟨a, C, dx, ws, u, h1, hide_same _ _ h3, c, na, h5, qz u h6⟩
      · cases hk
    | bor l o =>
      cases o <;> simp only [kAtt, reduceCtorEq] at hk
      split at hk
      · rename_i n' fs hn
        subst hn
        obtain ⟨nt, l', hl', a, C', dx, ws, h1, _, h2, h3, h4⟩ := p1
        rw [hC] at h2
        cases h2
        split at hk
        · rename_i d hl
          cases hk
          obtain ⟨u, h5, h6⟩ := h4.look hl
          exact ⟨a, C, dx, ws, u, h1, h3, c, na, h5, qz u h6⟩
        · rename_i d hl
          cases hk
          obtain ⟨u, h5, h6⟩ := h4.look hl
          exact ⟨a, C, dx, ws, u, h1, h3, c, na, h5, qz u ⟨nt, .sub l' f, hl', h6⟩⟩
        · rename_i d hl
          cases hk
          obtain ⟨u, h5, h6⟩ := h4.look hl
          exact ⟨a, C, dx, ws, u, h1, h3, c, na, h5, qz u ⟨nt, .sub l' f, hl', h6⟩⟩
        · cases hk
      · cases hk
end
end RC

set_option Elab.async false
set_option linter.all false
set_option maxRecDepth 100000
set_option maxHeartbeats 2000000
/-! R6: statements, loops, whole defs. -/
namespace RC
open PySem PySem.Spec PyProof.Rows L2

def FLands (f : Fl) (N B C : Env → Prop) (T : R → Env → Prop) (E : Exc → Env → Prop) : Prop := match f with
  | .nx e => N e
  | .bk e => B e
  | .ct e => C e
  | .rt r e => T r e
  | .rs x e => E x e
  | .stuck => False
def After (Z : Zc) (om : Om) (H : Hp) (K : L2.St → Hp → Prop) (e : Env) : Prop := ∀ om' σ' H', Keep om H om' H' → Rel Z om' σ' H' e → K σ' H'
def MuOk (Z : Zc) (om : Om) (H : Hp) (e : Env) : Prop := ∀ o, e[0]? = some (.mu o) → ∃ v, Z.v0 = some v ∧ Own Z.g om H (.slot 0) o v
def Back (Z : Zc) (K : VK) (r : R) (e : Env) : Prop := ∀ v om' H', Keep Z.om0 Z.H0 om' H' → (∀ a l, om' a = some l → ∃ o, H' a = some o) → ROk Z.g om' H' r v → MuOk Z om' H' e → K v H'
def Up (Z : Zc) (om : Om) (H : Hp) (W : WX) (x : Exc) (e : Env) : Prop := ∀ c d om' σ' H', Keep om H om' H' → Rel Z om' σ' H' e → ExOk Z.g om' H' x c d → W c d σ' H'
def tS (Z : Zc) (W : WX) (m : Env → Fl) : TS := fun D σ H => ∃ om env, Rel Z om σ H env ∧ FLands (m env) (After Z om H D.nx) (After Z om H D.bk) (After Z om H D.ct) (Back Z D.rt) (Up Z om H W)
/-- what statements need besides -/
structure Ks (X : Cx) (Z : Zc) (W : WX) : Prop extends Kx X Z W where
  tk : Takes X W
  pass : PassesOwn (model X.prog X.w) X.A X.env X.xe

section
variable {X : Cx} {Z : Zc} {W : WX} {e a b c o : Expr} {es : List Expr} {pos p p2 apos : Pos} {ma mb : Env → Res P} {mo : Env → Res R} {mr : Env → Res (List P)} {om om' : Om} {env : Env} {σ : L2.St} {H H' : Hp}
theorem After.weak {K : L2.St → Hp → Prop} (k : Keep om H om' H') {e : Env} (h : After Z om H K e) : After Z om' H' K e := fun a b c d => h a b c (k.trans d)
theorem Up.weak (k : Keep om H om' H') {x : Exc} {e : Env} (h : Up Z om H W x e) : Up Z om' H' W x e := fun a b c d f g => h a b c d f (k.trans g)
theorem FLands.weak {K1 K2 K3 : L2.St → Hp → Prop} {T : R → Env → Prop} (k : Keep om H om' H') {f : Fl} (h : FLands f (After Z om H K1) (After Z om H K2) (After Z om H K3) T (Up Z om H W)) : FLands f (After Z om' H' K1) (After Z om' H' K2) (After Z om' H' K3) T (Up Z om' H' W) := by
  cases f with
  | nx e => exact After.weak k h
  | bk e => exact After.weak k h
  | ct e => exact After.weak k h
  | rt r e => exact h
  | rs x e => exact Up.weak k h
  | stuck => exact h
/-- the statement's own end, from a known state -/
theorem After.here {K : L2.St → Hp → Prop} {e : Env} (h : After Z om H K e) (k : Keep om H om' H') (r : Rel Z om' σ H' e) : K σ H' := h om' σ H' k r

/-! blocks -/
def sNil : Env → Fl := fun env => .nx env
def sSeq (a b : Env → Fl) : Env → Fl := fun env => match a env with
  | .nx e => b e
  | f => f
variable {st : Stmt} {rest : List Stmt} {sa sb : Env → Fl}
theorem ss_nil : PSs X [] (tS Z W sNil) := pss_nil.pimp fun D σ H ⟨om, env, rl, q⟩ => q om σ H (Keep.refl _ _) rl
theorem ss_one (h : PS X st (tS Z W sa)) : PSs X [st] (tS Z W sa) := pss_one h
theorem ss_cons (h1 : PS X st (tS Z W sa)) (h2 : PSs X rest (tS Z W sb)) : PSs X (st :: rest) (tS Z W (sSeq sa sb)) := (pss_cons h1 h2).pimp fun D σ H ⟨om, env, rl, q⟩ => by
  refine ⟨om, env, rl, ?_⟩
  unfold sSeq at q
  cases ha : sa env with
  | nx e =>
    rw [ha] at q
    exact fun om' σ' H' k r => ⟨om', e, r, FLands.weak k q⟩
  | bk e => rw [ha] at q; exact q
  | ct e => rw [ha] at q; exact q
  | rt r e => rw [ha] at q; exact q
  | rs x e => rw [ha] at q; exact q
  | stuck => rw [ha] at q; exact q
theorem s_pass : PS X (.Pass pos) (tS Z W sNil) := ps_pass.pimp fun D σ H ⟨om, env, rl, q⟩ => q om σ H (Keep.refl _ _) rl
def sBrk : Env → Fl := fun env => .bk env
def sCnt : Env → Fl := fun env => .ct env

/-! names stored -/
theorem Rel.set (rl : Rel Z om σ H env) {i : Nat} {s : S} {v : V} (hs : SlotOk Z.g om H (some (some v)) i s) (h1 : ∀ o, env[i]? ≠ some (.mu o)) (h2 : ∀ o, s ≠ .mu o) (hi : env[i]? ≠ none) : Rel Z om (σ.set i (some v)) H (env.set i s) := by
  have hl : i < env.length := by
    cases h : env[i]? with
    | none => exact absurd h hi
    | some _ => exact (List.getElem?_eq_some_iff.mp h).1
  refine ⟨rl.tr, rl.nt, rl.kp, by simp [rl.ln], fun j s' h => ?_, fun o h => ?_⟩
  · by_cases hj : j = i
    · subst hj
      rw [List.getElem?_set_self hl] at h
      cases h
      rw [List.getElem?_set_self (by rw [rl.ln]; exact hl)]
      exact hs
    · rw [List.getElem?_set_ne (fun z => hj z.symm)] at h ⊢
      exact rl.sl j s' h
  · by_cases hj : 0 = i
    · subst hj
      rw [List.getElem?_set_self hl] at h
      cases h
      exact absurd rfl (h2 o)
    · rw [List.getElem?_set_ne (fun z => hj z.symm)] at h ⊢
      exact rl.mu o h
/-- a slot that may be stored to -/
def free? (env : Env) (i : Nat) : Bool := match env[i]? with
  | none => false
  | some (.mu _) => false
  | some _ => true
theorem free_ok {i : Nat} (h : free? env i = true) : (∀ o, env[i]? ≠ some (.mu o)) ∧ env[i]? ≠ none := by
  unfold free? at h
  split at h
  · cases h
  · cases h
  · rename_i s h1 h2
    exact ⟨fun o e => by rw [h2] at e; cases e; exact h1 o rfl, by rw [h2]; exact fun z => by cases z⟩
def setP (env : Env) (i : Nat) (p : P) : Option Env := if free? env i = true then (match p with
  | .fz d => some (env.set i (.fz d))
  | .bor .amb o => some (env.set i (.rd o))
  | .bor _ _ => none) else none
theorem setP_ok {i : Nat} {p : P} {v : V} {e' : Env} (rl : Rel Z om σ H env) (po : POk Z.g om H p v) (h : setP env i p = some e') : Rel Z om (σ.set i (some v)) H e' := by
  unfold setP at h
  split at h
  · rename_i hf
    obtain ⟨h1, h2⟩ := free_ok hf
    split at h
    · cases h
      exact rl.set (s := .fz _) ⟨v, rfl, po⟩ h1 (fun o z => by cases z) h2
    · cases h
      obtain ⟨_, l, hl, ow⟩ := po
      exact rl.set (s := .rd _) ⟨v, l, rfl, hl, ow⟩ h1 (fun o z => by cases z) h2
    · cases h
  · cases h
def sSet (i : Nat) (ma : Env → Res P) : Env → Fl := fun env => match ma env with
  | .ok p => match setP env i p with
    | some e => .nx e
    | none => .stuck
  | .rs x => .rs x env
  | .stuck => .stuck
theorem set_imp {i : Nat} : ∀ D σ H, tS Z W (sSet i ma) D σ H → tAsg (tP Z W ma) (gName i) D σ H := fun D σ H ⟨om, env, rl, q⟩ => by
  unfold sSet at q
  refine ⟨om, env, rl, ?_⟩
  cases ha : ma env with
  | stuck => rw [ha] at q; exact q
  | rs x => rw [ha] at q; exact fun c d H' e ex => q c d om σ H' (keep_grow rl.tr e) (rl.grow e) ex
  | ok p =>
    rw [ha] at q
    intro v H' e po
    simp only at q
    cases hp : setP env i p with
    | none => rw [hp] at q; exact q.elim
    | some e' =>
      rw [hp] at q
      exact q om _ H' (keep_grow rl.tr e) (setP_ok (rl.grow e) po hp)
theorem s_set {i : Nat} {x : Str} {p3 : Pos} (kx : Kx X Z W) (hi : X.N[i]? = some x) (hx : Loc X.env.scope x) (he : PE X e (tP Z W ma)) (hs : swapsWith e (some (.Name x p3)) pos.line X.env = pure false := by rfl) (hf : X.fn x = true ∨ X.env.scope.names.lookup x = some .local := by first | exact .inl rfl | exact .inr rfl | assumption) :
    PS X (.Assign [.Name x p3] e pos) (tS Z W (sSet i ma)) := (ps_set kx.nd hi hx he hs hf).pimp set_imp
/-- what was temporarily owned is given to a slot -/
theorem own_to (i : Nat) {o : O} {v : V} {H0 : Hp} (rl : Rel Z om σ H0 env) (n : New om H0 om' H) (ow : Own Z.g om' H .tmp o v) :
    ∃ om2, Own Z.g om2 H (.slot i) o v ∧ Keep om H0 om2 H ∧ (∀ a l, om2 a = some l → ∃ o, H a = some o) ∧ (∀ a l, om2 a = some l → l.root ≠ .tmp) ∧ (∀ a l, om a = some l → om2 a = some l) ∧ hide om2 H = hide om' H := by
  have fx : ∀ l : Lab, l.root ≠ .tmp → (l.re fun l => match l with | .tmp => Lab.slot i | l => l) = l := fun l hl => Lab.re_eq _ (by
    cases h : l.root with
    | tmp => exact absurd h hl
    | _ => rfl)
  have hn : ∀ a, om' a = none ↔ (om' a).map (fun l => l.re fun l => match l with | .tmp => Lab.slot i | l => l) = none := fun a => by cases om' a <;> simp
  have hh := hide_none (H := H) hn
  have fr : ∀ l : Lab, ((l.re fun l => match l with | .tmp => Lab.slot i | l => l)).root ≠ .tmp := fun l => by
    induction l with
    | sub l s ih => exact ih
    | amb => exact fun z => by cases z
    | slot j => exact fun z => by cases z
    | tmp => exact fun z => by cases z
  have old : ∀ a l, om a = some l → (om' a).map (fun l => l.re fun l => match l with | .tmp => Lab.slot i | l => l) = some l := fun a l h => by
    rw [n.old a l h]
    simp only [Option.map_some, Option.some.injEq]
    exact fx l (rl.nt a l h)
  refine ⟨fun a => (om' a).map fun l => l.re fun l => match l with | .tmp => Lab.slot i | l => l, ?_, ?_, fun a l h => ?_, fun a l h => ?_, old, hh⟩
  · exact ow.relab (f := fun l => match l with | .tmp => Lab.slot i | l => l) hh fun a l h _ => by show (om' a).map _ = _; rw [h]; rfl
  · refine ⟨?_, fun a l h hr => ⟨old a l h, ?_⟩, fun a l h hr => ?_⟩
    · rw [hh]; exact n.hide rl.tr
    · exact ((n.keep rl.tr).am a l h hr).2
    · cases h' : om' a with
      | none => have h : (om' a).map _ = some l := h; rw [h'] at h; cases h
      | some l' =>
        have h : (om' a).map (fun l => l.re fun l => match l with | .tmp => Lab.slot i | l => l) = some l := h
        rw [h'] at h
        simp only [Option.map_some, Option.some.injEq] at h
        rcases n.new a l' h' with z | ⟨_, z, _⟩
        · rw [fx l' (rl.nt a l' z)] at h
          subst h
          exact z
        · exfalso
          have w : ∀ l : Lab, l.root = .tmp → ((l.re fun l => match l with | .tmp => Lab.slot i | l => l)).root = .slot i := fun l => by
            induction l with
            | sub l s ih => exact ih
            | amb => intro h; cases h
            | slot j => intro h; cases h
            | tmp => intro h; rfl
          have := w l' z
          rw [h, hr] at this
          cases this
  · cases h' : om' a with
    | none => have h : (om' a).map _ = some l := h; rw [h'] at h; cases h
    | some l' =>
      rcases n.new a l' h' with z | ⟨_, _, z⟩
      · obtain ⟨u, w⟩ := rl.tr a l' z
        exact ⟨u, n.ex a u w⟩
      · exact z
  · cases h' : om' a with
    | none => have h : (om' a).map _ = some l := h; rw [h'] at h; cases h
    | some l' =>
      have h : (om' a).map (fun l => l.re fun l => match l with | .tmp => Lab.slot i | l => l) = some l := h
      rw [h'] at h
      simp only [Option.map_some, Option.some.injEq] at h
      rw [← h]
      exact fr l'
/-- the frame's relation under a labelling that keeps the old labels -/
theorem Rel.relab {H0 : Hp} {om2 : Om} (rl : Rel Z om σ H0 env) (k : Keep om H0 om2 H) (tr : ∀ a l, om2 a = some l → ∃ o, H a = some o) (nt : ∀ a l, om2 a = some l → l.root ≠ .tmp) (old : ∀ a l, om a = some l → om2 a = some l) (ex : Same H0 H) : Rel Z om2 σ H env :=
  ⟨tr, nt, rl.kp.trans k, rl.ln, fun i s h => (rl.sl i s h).mono k.st fun r _ a l h _ => by
    obtain ⟨u, w⟩ := rl.tr a l h
    exact ⟨old a l h, by rw [w]; exact ex a u w⟩, rl.mu⟩
def sOwn (i : Nat) (mo : Env → Res R) : Env → Fl := fun env => match mo env with
  | .ok (.tmp o) => if free? env i = true then .nx (env.set i (.ow o)) else .stuck
  | .rs x => .rs x env
  | _ => .stuck
theorem own_imp {i : Nat} : ∀ D σ H, tS Z W (sOwn i mo) D σ H → tAsg (tO Z W mo) (gName i) D σ H := fun D σ H ⟨om, env, rl, q⟩ => by
  unfold sOwn at q
  refine ⟨om, env, rl, ?_⟩
  cases ha : mo env with
  | stuck => rw [ha] at q; exact q
  | rs x => rw [ha] at q; exact fun c d H' e ex => q c d om σ H' (keep_grow rl.tr e) (rl.grow e) ex
  | ok r =>
    rw [ha] at q
    intro v om' H' n ro
    cases r with
    | fz d => exact q.elim
    | bor l o => exact q.elim
    | tmp o =>
      simp only at q
      split at q
      · rename_i hf
        obtain ⟨f1, f2⟩ := free_ok hf
        obtain ⟨om2, o1, o2, o3, o4, o5, o6⟩ := own_to i rl n ro
        exact q om2 _ H' o2 ((rl.relab o2 o3 o4 o5 n.ex).set (s := .ow o) ⟨v, rfl, o1⟩ f1 (fun o z => by cases z) f2)
      · exact q.elim

theorem s_own {i : Nat} {x : Str} {p3 : Pos} (kx : Kx X Z W) (hi : X.N[i]? = some x) (hx : Loc X.env.scope x) (he : PE X e (tO Z W mo)) (hs : swapsWith e (some (.Name x p3)) pos.line X.env = pure false := by rfl) (hf : X.fn x = true ∨ X.env.scope.names.lookup x = some .local := by first | exact .inl rfl | exact .inr rfl | assumption) :
    PS X (.Assign [.Name x p3] e pos) (tS Z W (sOwn i mo)) := (ps_set kx.nd hi hx he hs hf).pimp own_imp
/-! targets -/
def tG (Z : Zc) (g : D → Env → Option Env) : TG := fun v σ H Q => ∃ om env d, Rel Z om σ H env ∧ Hd Z.g (hide om H) d v ∧ ∃ e', g d env = some e' ∧ ∀ σ', Rel Z om σ' H e' → Q σ' H
def tGs (Z : Zc) (g : List D → Env → Option Env) : TGs := fun vs σ H Q => ∃ om env ds, Rel Z om σ H env ∧ Hds Z.g (hide om H) ds vs ∧ ∃ e', g ds env = some e' ∧ ∀ σ', Rel Z om σ' H e' → Q σ' H
theorem _root_.L2.PG.pimp {X : Cx} {e : Expr} {t t' : TG} (h : PG X e t) (i : ∀ v σ H Q, t' v σ H Q → t v σ H Q) : PG X e t' := ⟨fun pins s σ H v u Q I r q => h.run pins s σ H v u Q I r (i v σ H Q q)⟩
theorem _root_.L2.PGs.pimp {X : Cx} {e : List Expr} {t t' : TGs} (h : PGs X e t) (i : ∀ v σ H Q, t' v σ H Q → t v σ H Q) : PGs X e t' := ⟨fun pins s σ H v u Q I r q => h.run pins s σ H v u Q I r (i v σ H Q q)⟩
def gN (i : Nat) : D → Env → Option Env := fun d env => setP env i (.fz d)
def gsNil : List D → Env → Option Env := fun ds env => match ds with
  | [] => some env
  | _ => none
def gsCons (g : D → Env → Option Env) (h : List D → Env → Option Env) : List D → Env → Option Env := fun ds env => match ds with
  | d :: r => match g d env with
    | some e => h r e
    | none => none
  | [] => none
def gT (h : List D → Env → Option Env) (n : Nat) : D → Env → Option Env := fun d env => match d with
  | .tup ds => if ds.length = n then h ds env else none
  | _ => none
theorem g_name {i : Nat} {x : Str} (nd : X.N.Nodup) (hi : X.N[i]? = some x) (hx : Loc X.env.scope x) (hf : X.fn x = true ∨ X.env.scope.names.lookup x = some .local := by first | exact .inl rfl | exact .inr rfl | assumption) : PG X (.Name x pos) (tG Z (gN i)) :=
  (pg_name nd hi hx hf).pimp fun v σ H Q ⟨om, env, d, rl, hd, e', he, q⟩ => q _ (setP_ok (p := .fz d) rl hd he)
theorem gs_nil : PGs X [] (tGs Z gsNil) := pgs_nil.pimp fun v σ H Q ⟨om, env, ds, rl, hd, e', he, q⟩ => by
  unfold gsNil at he
  split at he
  · cases he
    unfold Hds at hd
    exact ⟨hd, q σ rl⟩
  · cases he
variable {tg : Expr} {tgs : List Expr} {g : D → Env → Option Env} {gs : List D → Env → Option Env}
theorem gs_cons (h1 : PG X tg (tG Z g)) (h2 : PGs X tgs (tGs Z gs)) (hs : (assignEach (tg :: tgs) X.env).map (·.2) = assign tg X.env :: (assignEach tgs X.env).map (·.2) := by rfl) : PGs X (tg :: tgs) (tGs Z (gsCons g gs)) :=
  (pgs_cons h1 h2 hs).pimp fun v σ H Q ⟨om, env, ds, rl, hd, e', he, q⟩ => by
    unfold gsCons at he
    split at he
    · rename_i d r
      unfold Hds at hd
      obtain ⟨v, vs, rfl, d1, d2⟩ := hd
      cases hg : g d env with
      | none => rw [hg] at he; cases he
      | some e1 =>
        rw [hg] at he
        exact ⟨v, vs, rfl, om, env, d, rl, d1, e1, hg, fun σ' r1 => ⟨om, e1, r, r1, d2, e', he, q⟩⟩
    · cases he
theorem g_tup {j n : Nat} (kx : Kx X Z W) (h : PGs X tgs (tGs Z gs)) (hn : (assignEach tgs X.env).length = n := by rfl) (hst : (assignEach tgs X.env).findIdx? (·.1) = none := by rfl) (hz : Z.hot = false := by rfl) : PG X (.Tuple tgs j pos) (tG Z (gT gs n)) :=
  (pg_tup (kx.calm hz) h hn hst).pimp fun v σ H Q ⟨om, env, d, rl, hd, e', he, q⟩ => by
    unfold gT at he
    split at he
    · rename_i ds
      split at he
      · rename_i hl
        simp only [Hd] at hd
        obtain ⟨a, xs, h1, h2, h3⟩ := hd
        exact ⟨a, xs, h1, SqT.of (hide_same _ _ h2), by rw [← h3.len]; exact hl, om, env, ds, rl, h3, e', he, q⟩
      · cases he
    · cases he
/-- (a, b, ..) = e -/
def sUnp (g : D → Env → Option Env) (ma : Env → Res P) : Env → Fl := fun env => match ma env with
  | .ok (.fz d) => match g d env with
    | some e => .nx e
    | none => .stuck
  | .rs x => .rs x env
  | _ => .stuck
theorem s_unp (he : PE X e (tP Z W ma)) (hg : PG X tg (tG Z g)) (hs : swapsWithSole [tg] e pos.line X.env = pure false := by rfl) (hw : swappedStores [tg] e X.env = pure none := by rfl)
    (h1 : (assignEach [tg] X.env).map (·.2) = [assign tg X.env] := by rfl) : PS X (.Assign [tg] e pos) (tS Z W (sUnp g ma)) := (ps_asg he hg hs hw h1).pimp fun D σ H ⟨om, env, rl, q⟩ => by
  unfold sUnp at q
  refine ⟨om, env, rl, ?_⟩
  cases ha : ma env with
  | stuck => rw [ha] at q; exact q
  | rs x => rw [ha] at q; exact fun c d H' e ex => q c d om σ H' (keep_grow rl.tr e) (rl.grow e) ex
  | ok p =>
    rw [ha] at q
    intro v H' e po
    cases p with
    | bor l o => exact q.elim
    | fz d =>
      simp only at q
      cases hg : g d env with
      | none => rw [hg] at q; exact q.elim
      | some e' =>
        rw [hg] at q
        exact ⟨om, env, d, rl.grow e, po, e', hg, fun σ' r => q om σ' H' (keep_grow rl.tr e) r⟩

/-! expression statements, return, raise, if -/
def sExp (mo : Env → Res R) : Env → Fl := fun env => match mo env with
  | .ok _ => .nx env
  | .rs x => .rs x env
  | .stuck => .stuck
theorem s_exp (he : PE X e (tO Z W mo)) (hs : swapsWith e none pos.line X.env = pure false := by rfl) : PS X (.Expr e pos) (tS Z W (sExp mo)) := (ps_expr he hs).pimp fun D σ H ⟨om, env, rl, q⟩ => by
  unfold sExp at q
  refine ⟨om, env, rl, ?_⟩
  cases ha : mo env with
  | stuck => rw [ha] at q; exact q
  | rs x => rw [ha] at q; exact fun c d H' e ex => q c d om σ H' (keep_grow rl.tr e) (rl.grow e) ex
  | ok r => rw [ha] at q; exact fun v om' H' n ro => q om σ H' (keep_grow rl.tr n.ex) (rl.grow n.ex)
theorem mu_of {H0 : Hp} (rl : Rel Z om σ H0 env) (n : New om H0 om' H) : MuOk Z om' H env := fun o h => by
  obtain ⟨v, h1, h2⟩ := rl.sl 0 _ h
  have h3 := rl.mu o h
  rw [h3] at h1
  refine ⟨v, by simpa using h1, h2.mono (n.hide rl.tr) (n.stays rl.tr _) rfl⟩
def sRet (mo : Env → Res R) : Env → Fl := fun env => match mo env with
  | .ok r => .rt r env
  | .rs x => .rs x env
  | .stuck => .stuck
theorem s_ret (he : PE X e (tO Z W mo)) : PS X (.Return (some e) pos) (tS Z W (sRet mo)) := (ps_ret he).pimp fun D σ H ⟨om, env, rl, q⟩ => by
  unfold sRet at q
  refine ⟨om, env, rl, ?_⟩
  cases ha : mo env with
  | stuck => rw [ha] at q; exact q
  | rs x => rw [ha] at q; exact fun c d H' e ex => q c d om σ H' (keep_grow rl.tr e) (rl.grow e) ex
  | ok r =>
    rw [ha] at q
    refine fun v om' H' n ro => q v om' H' (rl.kp.trans (n.keep rl.tr)) (fun a l h => ?_) ro (mu_of rl n)
    rcases n.new a l h with z | ⟨_, _, z⟩
    · obtain ⟨u, w⟩ := rl.tr a l z
      exact ⟨u, n.ex a u w⟩
    · exact z
def sRetN : Env → Fl := fun env => .rt (.fz .non) env
theorem s_retN : PS X (.Return none pos) (tS Z W sRetN) := ps_retN.pimp fun D σ H ⟨om, env, rl, q⟩ =>
  q .non om H rl.kp rl.tr (by unfold ROk Hd; rfl) (mu_of rl (New.same (Same.refl _)))
variable {tc : Env → Res Bool} {body orelse : List Stmt}
def sIf (tc : Env → Res Bool) (sa sb : Env → Fl) : Env → Fl := fun env => match tc env with
  | .ok x => if x = true then sa env else sb env
  | .rs x => .rs x env
  | .stuck => .stuck
theorem s_if (hc : PT X c (tB Z W tc)) (ha : PSs X body (tS Z W sa)) (hb : PSs X orelse (tS Z W sb)) : PS X (.If c body orelse pos) (tS Z W (sIf tc sa sb)) := (ps_if hc ha hb).pimp fun D σ H ⟨om, env, rl, q⟩ => by
  unfold sIf at q
  refine ⟨om, env, rl, ?_⟩
  cases hx : tc env with
  | stuck => rw [hx] at q; exact q
  | rs x => rw [hx] at q; exact fun c d H' e ex => q c d om σ H' (keep_grow rl.tr e) (rl.grow e) ex
  | ok x =>
    rw [hx] at q
    intro H' e
    cases x with
    | true => rw [if_pos rfl]; exact ⟨om, env, rl.grow e, FLands.weak (keep_grow rl.tr e) (by simpa using q)⟩
    | false => rw [if_neg Bool.false_ne_true]; exact ⟨om, env, rl.grow e, FLands.weak (keep_grow rl.tr e) (by simpa using q)⟩
def sRaise (x : Str) : Env → Fl := fun env => .rs ⟨x, none⟩ env
/-- an exception's class, as the top has made it -/
structure Xc (g : Ga) (x : Str) (C : Addr) : Prop where
  gm : g.mg x = some (.ref C)
  ex : PySem.W.excIn g.K C [.type "ValueError", .type "Exception", .type "BaseException", .type "object"] "ValueError.__new__" = true
  kp : PySem.W.keepIn g.K (.ref C) = true
  b : PySem.W.subIn g.K (.ref C) (.type "BaseException") = some true
  t : PySem.W.typeIn g.K (.ref C) = some (.type "type")
theorem s_raise {x m : Str} {j : Nat} {C : Addr} {p2 p3 : Pos} (ks : Ks X Z W) (xc : Xc Z.g x C) (hg : Gl X x := by rfl) (hdb : (x == ("__debug__" : Str)) = false := by decide) (hz : Z.hot = false := by rfl) :
    PS X (.Raise (some (.Call (.Name x p) [.Constant (.str m) j p2] [] p3)) none pos) (tS Z W (sRaise x)) := by
  have h1 := xc.ex
  have h2 := xc.kp
  have h3 := xc.b
  have h4 := xc.t
  have h5 := xc.gm
  rw [ks.gK] at h1 h2 h3 h4
  rw [ks.gm] at h5
  refine (ps_raise (ks.calm hz) ks.tk (pmk_own PySem.F.excBase_ValueError h1 h5 h2 (raises_own h3 h4) hg hdb)).pimp fun D σ H ⟨om, env, rl, q⟩ => ?_
  exact q (.ref C) none om σ H (Keep.refl _ _) rl ⟨C, xc.gm, rfl, rfl⟩

/-! an owned list changed -/
theorem own_at {i : Nat} {ds : List D} {v : V} (rl : Rel Z om σ H env) (h : env[i]? = some (.ow (.lst ds))) : ∃ q xs, σ[i]? = some (some (.ref q)) ∧ om q = some (.slot i) ∧ H q = some (.lst xs) ∧ Hds Z.g (hide om H) ds xs := by
  obtain ⟨v, h1, q, xs, h2, h3, h4, h5⟩ := rl.sl i _ h
  subst h2
  exact ⟨q, xs, h1, h3, h4, h5⟩
theorem hide_mut {q : Addr} {l : Lab} {u : HO} (h : om q = some l) : hide om (upd H q u) = hide om H := by
  funext a
  by_cases z : a = q
  · subst z
    unfold hide
    rw [h]
  · unfold hide
    rw [upd_ne z]
theorem keep_mut {q : Addr} {l : Lab} {u : HO} (h : om q = some l) (hl : l.root ≠ .amb) : Keep om H om (upd H q u) :=
  ⟨by rw [hide_mut h]; exact Same.refl _, fun a l' h' hr => ⟨h', by rw [upd_ne (fun z => by subst z; rw [h] at h'; cases h'; exact hl hr)]⟩, fun _ _ h _ => h⟩
theorem Rel.mut (rl : Rel Z om σ H env) {i : Nat} {ds ds' : List D} {q : Addr} {xs' : List V} (h : env[i]? = some (.ow (.lst ds))) (hs : σ[i]? = some (some (.ref q))) (hq : om q = some (.slot i)) (hd : Hds Z.g (hide om H) ds' xs') :
    Rel Z om σ (upd H q (.lst xs')) (env.set i (.ow (.lst ds'))) ∧ Keep om H om (upd H q (.lst xs')) := by
  have hl : i < env.length := (List.getElem?_eq_some_iff.mp h).1
  have k : Keep om H om (upd H q (.lst xs')) := keep_mut hq (fun z => by cases z)
  refine ⟨⟨fun a l h => ?_, rl.nt, rl.kp.trans k, by simp [rl.ln], fun j s hj => ?_, fun o ho => ?_⟩, k⟩
  · by_cases z : a = q
    · subst z; exact ⟨_, upd_same⟩
    · rw [upd_ne z]; exact rl.tr a l h
  · by_cases z : j = i
    · subst z
      rw [List.getElem?_set_self hl] at hj
      cases hj
      exact ⟨_, hs, q, xs', rfl, hq, upd_same, by rw [hide_mut hq]; exact hd⟩
    · rw [List.getElem?_set_ne (fun w => z w.symm)] at hj
      refine (rl.sl j s hj).mono k.st fun r hr a l h' hl' => ⟨h', ?_⟩
      rw [upd_ne]
      intro w
      subst w
      rw [hq] at h'
      cases h'
      rcases hr with rfl | rfl
      · cases hl'
      · cases hl'; exact z rfl
  · by_cases z : 0 = i
    · subst z
      rw [List.getElem?_set_self hl] at ho
      cases ho
    · rw [List.getElem?_set_ne (fun w => z w.symm)] at ho
      exact rl.mu o ho
/-- name.append(e) -/
def sApp (i : Nat) (ma : Env → Res P) : Env → Fl := fun env => match env[i]? with
  | some (.ow (.lst ds)) => match ma env with
    | .ok (.fz d) => if ds.length < 16777216 then .nx (env.set i (.ow (.lst (ds ++ [d])))) else .stuck
    | .rs x => .rs x env
    | _ => .stuck
  | _ => .stuck
theorem s_app {i : Nat} {x : Str} {p3 : Pos} (hv : PE X (.Name x p3) (tVar i)) (he : PE X e (tP Z W ma))
    (hbase : attributeBase (.Name x p3) "append" X.env (eval (.Name x p3) X.env) = eval (.Name x p3) X.env := by rfl)
    (hfew : ((backTo p2 (starEach (e :: []) X.env)).all (fun x => !x.1) && (backToKw p2 (keywordEach [] X.env)).all (fun x => x.1.isSome)
      && decide ((e :: ([] : List Expr)).length + ([] : List Keyword).length + (if ([] : List Keyword).isEmpty then 0 else 1) < 30)) = true := by rfl)
    (hline : (apos.endLine == p2.line) = true := by rfl) (hs : starEach (e :: []) X.env = (false, eval e X.env) :: starEach [] X.env := by rfl) (hplain : (backTo p2 (starEach [] X.env)).any (·.1) = false := by rfl)
    (hsw : swapsWith (.Call (.Attribute (.Name x p3) "append" apos) (e :: []) [] p2) none pos.line X.env = pure false := by rfl) :
    PS X (.Expr (.Call (.Attribute (.Name x p3) "append" apos) (e :: []) [] p2) pos) (tS Z W (sApp i ma)) :=
  (ps_expr (pe_bm PySem.F.plainAttrs_list PySem.F.slot_list_append PySem.F.type_list_append mt_append hv (pa_cons he pa_nil hs) hbase hfew hline hs hplain) hsw).pimp fun D σ H ⟨om, env, rl, q⟩ => by
    unfold sApp at q
    split at q
    · rename_i ds hi
      obtain ⟨a, xs, h1, h2, h3, h4⟩ := own_at (v := .non) rl hi
      refine ⟨.ref a, h1, .inl ⟨rfl, xs, SqL.of h3⟩, om, env, rl, ?_⟩
      cases ha : ma env with
      | stuck => rw [ha] at q; exact q
      | rs x => rw [ha] at q; exact fun c d H' e ex => q c d om σ H' (keep_grow rl.tr e) (rl.grow e) ex
      | ok p =>
        rw [ha] at q
        intro v H' e po
        cases p with
        | bor l o => exact q.elim
        | fz d =>
          simp only at q
          split at q
          · rename_i hl
            obtain ⟨r1, r2⟩ := (rl.grow e).mut hi h1 h2 ((h4.mono (hide_grow e)).app (.one po))
            exact ⟨a, xs, v, rfl, rfl, e _ _ h3, by rw [← h4.len, sizeLine_eq]; exact hl, q om σ _ ((keep_grow rl.tr e).trans r2) r1⟩
          · exact q.elim
    · exact q.elim
/-- y = name.pop(e) -/
def sPopAt (j i : Nat) (ma : Env → Res P) : Env → Fl := fun env => match env[i]? with
  | some (.ow (.lst ds)) => match ma env with
    | .ok (.fz (.int k)) => if -9223372036854775808 ≤ k ∧ k < 9223372036854775808 then match seqIndex? k ds.length with
      | some n => match ds[n]? with
        | some d => match setP (env.set i (.ow (.lst (ds.eraseIdx n)))) j (.fz d) with
          | some e' => .nx e'
          | none => .stuck
        | none => .stuck
      | none => .stuck
      else .stuck
    | .rs x => .rs x env
    | _ => .stuck
  | _ => .stuck
theorem s_popAt {i j : Nat} {x y : Str} {p3 p4 : Pos} (kx : Kx X Z W) (hj : X.N[j]? = some y) (hy : Loc X.env.scope y) (hv : PE X (.Name x p3) (tVar i)) (he : PE X e (tP Z W ma))
    (hbase : attributeBase (.Name x p3) "pop" X.env (eval (.Name x p3) X.env) = eval (.Name x p3) X.env := by rfl)
    (hfew : ((backTo p2 (starEach (e :: []) X.env)).all (fun x => !x.1) && (backToKw p2 (keywordEach [] X.env)).all (fun x => x.1.isSome)
      && decide ((e :: ([] : List Expr)).length + ([] : List Keyword).length + (if ([] : List Keyword).isEmpty then 0 else 1) < 30)) = true := by rfl)
    (hline : (apos.endLine == p2.line) = true := by rfl) (hs : starEach (e :: []) X.env = (false, eval e X.env) :: starEach [] X.env := by rfl) (hplain : (backTo p2 (starEach [] X.env)).any (·.1) = false := by rfl)
    (hsw : swapsWith (.Call (.Attribute (.Name x p3) "pop" apos) (e :: []) [] p2) (some (.Name y p4)) pos.line X.env = pure false := by rfl) (hf : X.fn y = true ∨ X.env.scope.names.lookup y = some .local := by first | exact .inl rfl | exact .inr rfl | assumption) :
    PS X (.Assign [.Name y p4] (.Call (.Attribute (.Name x p3) "pop" apos) (e :: []) [] p2) pos) (tS Z W (sPopAt j i ma)) :=
  (ps_set kx.nd hj hy (pe_bm PySem.F.plainAttrs_list PySem.F.slot_list_pop PySem.F.type_list_pop mt_popAt hv (pa_cons he pa_nil hs) hbase hfew hline hs hplain) hsw hf).pimp fun D σ H ⟨om, env, rl, q⟩ => by
    unfold sPopAt at q
    split at q
    · rename_i ds hi
      obtain ⟨a, xs, h1, h2, h3, h4⟩ := own_at (v := .non) rl hi
      refine ⟨.ref a, h1, .inl ⟨rfl, xs, SqL.of h3⟩, om, env, rl, ?_⟩
      cases ha : ma env with
      | stuck => rw [ha] at q; exact q
      | rs x => rw [ha] at q; exact fun c d H' e ex => q c d om σ H' (keep_grow rl.tr e) (rl.grow e) ex
      | ok p =>
        rw [ha] at q
        intro v H' e po
        cases p with
        | bor l o => exact q.elim
        | fz d =>
          cases d <;> try exact q.elim
          rename_i k
          simp only at q
          split at q
          · rename_i hk
            split at q
            · rename_i n hn
              split at q
              · rename_i d hd
                split at q
                · rename_i e' he'
                  have hv : v = .int k := by simpa [POk, Hd] using po
                  subst hv
                  obtain ⟨u, hu1, hu2⟩ := h4.get hd
                  obtain ⟨r1, r2⟩ := (rl.grow e).mut hi h1 h2 ((h4.mono (hide_grow e)).erase n)
                  refine ⟨a, xs, k, n, u, rfl, rfl, e _ _ h3, hk.1, hk.2, by rw [← h4.len]; exact hn, hu1, ?_⟩
                  refine q om _ _ ((keep_grow rl.tr e).trans r2) (setP_ok r1 ?_ he')
                  show Hd _ (hide om (upd H' a _)) _ _
                  rw [hide_mut h2]
                  exact hu2.mono (hide_grow e)
                · exact q.elim
              · exact q.elim
            · exact q.elim
          · exact q.elim
    · exact q.elim
/-- name[k] = e -/
def setD (ds : List D) (k : Int) (d : D) : Option (List D) := (ixN ds.length k).map fun j => ds.set j d
def sIt (i : Nat) (mk ma : Env → Res P) : Env → Fl := fun env => match env[i]? with
  | some (.ow (.lst ds)) => match (ma env).bind fun x => (mk env).bind fun y => .of (match x, y.int? with
    | .fz d, some k => setD ds k d
    | _, _ => none) with
    | .ok ds' => .nx (env.set i (.ow (.lst ds')))
    | .rs x => .rs x env
    | .stuck => .stuck
  | _ => .stuck
theorem s_it {i : Nat} {x : Str} {p3 : Pos} {k : Expr} {mk : Env → Res P} (hv : PE X (.Name x p3) (tVar i)) (hk : PE X k (tP Z W mk)) (he : PE X e (tP Z W ma))
    (hs : swapsWithSole [.Subscript (.Name x p3) k p2] e pos.line X.env = pure false := by rfl) (hw : swappedStores [.Subscript (.Name x p3) k p2] e X.env = pure none := by rfl)
    (h1 : (assignEach [.Subscript (.Name x p3) k p2] X.env).map (·.2) = [assign (.Subscript (.Name x p3) k p2) X.env] := by rfl)
    (ha : ∀ v, assign (.Subscript (.Name x p3) k p2) X.env v = (do
      let ov ← holding [v] (eval (.Name x p3) X.env)
      let iv ← holding [v, ov] (eval k X.env)
      standAt p2
      holding [v, ov, iv] (setItem ov iv v)
      release [v, ov, iv] []) := by intro _; rfl) :
    PS X (.Assign [.Subscript (.Name x p3) k p2] e pos) (tS Z W (sIt i mk ma)) :=
  (ps_asg he (pg_sub hv hk set_list ha) hs hw h1).pimp fun D σ H ⟨om, env, rl, q⟩ => by
    unfold sIt at q
    split at q
    · rename_i ds hi
      obtain ⟨a, xs, h1, h2, h3, h4⟩ := own_at (v := .non) rl hi
      refine ⟨om, env, rl, ?_⟩
      cases hma : ma env with
      | stuck => rw [hma] at q; exact q
      | rs x => rw [hma] at q; exact fun c d H' e ex => q c d om σ H' (keep_grow rl.tr e) (rl.grow e) ex
      | ok z =>
        rw [hma] at q
        simp only [Res.bind] at q
        intro v H' e po
        refine ⟨.ref a, h1, om, env, rl.grow e, ?_⟩
        cases hmk : mk env with
        | stuck => rw [hmk] at q; exact q
        | rs x => rw [hmk] at q; exact fun c d H'' e2 ex => q c d om σ H'' (keep_grow rl.tr (e.trans e2)) (rl.grow (e.trans e2)) ex
        | ok y =>
          rw [hmk] at q
          simp only at q
          intro u H'' e2 pu
          cases z with
          | bor l o => exact q.elim
          | fz d =>
            cases hy : y.int? with
            | none => rw [hy] at q; exact q.elim
            | some k =>
              rw [hy] at q
              simp only at q
              cases hd : setD ds k d with
              | none => rw [hd] at q; exact q.elim
              | some ds' =>
                rw [hd] at q
                unfold setD at hd
                cases hj : ixN ds.length k with
                | none => rw [hj] at hd; cases hd
                | some j =>
                  rw [hj] at hd
                  cases hd
                  have e3 := e.trans e2
                  obtain ⟨r1, r2⟩ := (rl.grow e3).mut hi h1 h2 ((h4.mono (hide_grow e3)).set j (Hd.mono (hide_grow e2) po))
                  exact ⟨a, xs, k, j, rfl, pu.int hy, e3 _ _ h3, by rw [← h4.len]; exact hj, q om σ _ ((keep_grow rl.tr e3).trans r2) r1⟩
    · exact q.elim
/-- name[k] += e (ints) -/
def rGetL : V → V → Hp → VK → Prop := fun o i H Q => ∃ p xs k v, o = .ref p ∧ i = .int k ∧ H p = some (.lst xs) ∧ 0 ≤ k ∧ xs[k.toNat]? = some v ∧ Q v H
theorem get_list : PGet X rGetL := fun pins s σ H o i ov iv Q I ro ri ⟨p, xs, k, v, e1, e2, hp, h0, hx, q⟩ => by
  subst e1 e2
  cases ro
  obtain ⟨t, rfl⟩ := ri
  obtain ⟨its, r, pl, hz⟩ := I.list (SqL.of (K := X.K) hp)
  obtain ⟨w, ew, rw'⟩ := r.get hx
  have hl := (List.getElem?_eq_some_iff.mp ew).1
  have hn := line63
  have hlen := r.length
  exact wpAny_getItem_list pl.isList h0 (by omega) (by simpa using ew) ⟨v, H, I, rw', q⟩
def augAt (ds : List D) (y : P) : Option (Nat × Int) := match y.int? with
  | some k => if 0 ≤ k then match ds[k.toNat]? with
    | some (.int w) => some (k.toNat, w)
    | _ => none
    else none
  | none => none
theorem augAt_ok {ds : List D} {y : P} {n : Nat} {w : Int} (h : augAt ds y = some (n, w)) : ∃ k, y.int? = some k ∧ 0 ≤ k ∧ k.toNat = n ∧ ds[n]? = some (.int w) := by
  unfold augAt at h
  split at h
  · rename_i k hk
    split at h
    · rename_i h0
      split at h
      · rename_i w' hw
        cases h
        exact ⟨k, hk, h0, rfl, hw⟩
      · cases h
    · cases h
  · cases h
def sAugI (f : Int → Int → Int) (i : Nat) (mk ma : Env → Res P) : Env → Fl := fun env => match env[i]? with
  | some (.ow (.lst ds)) => match mk env with
    | .ok y => match augAt ds y with
      | some (n, w) => match ma env with
        | .ok z => match z.int? with
          | some z => .nx (env.set i (.ow (.lst (ds.set n (.int (f w z))))))
          | none => .stuck
        | .rs x => .rs x env
        | .stuck => .stuck
      | none => .stuck
    | .rs x => .rs x env
    | .stuck => .stuck
  | _ => .stuck
theorem s_augI {op : Operator} {f : Int → Int → Int} {i : Nat} {x : Str} {p3 : Pos} {k : Expr} {mk : Env → Res P} (hp : PIp X op (ipI f)) (hv : PE X (.Name x p3) (tVar i)) (hk : PE X k (tP Z W mk)) (he : PE X e (tP Z W ma))
    (ha : ∀ ov iv new, augStore k ov iv new = (do holding [new, ov, iv] (setItem ov iv new); release [new, ov, iv] []; pure .next) := by intros; rfl) :
    PS X (.AugAssign (.Subscript (.Name x p3) k p2) op e pos) (tS Z W (sAugI f i mk ma)) :=
  (ps_augS hv hk get_list he hp set_list ha).pimp fun D σ H ⟨om, env, rl, q⟩ => by
    unfold sAugI at q
    split at q
    · rename_i ds hi
      obtain ⟨a, xs, h1, h2, h3, h4⟩ := own_at (v := .non) rl hi
      refine ⟨.ref a, h1, om, env, rl, ?_⟩
      cases hmk : mk env with
      | stuck => rw [hmk] at q; exact q
      | rs x => rw [hmk] at q; exact fun c d H' e ex => q c d om σ H' (keep_grow rl.tr e) (rl.grow e) ex
      | ok y =>
        rw [hmk] at q
        simp only at q
        intro v H' e po
        split at q
        · rename_i n w hn
          obtain ⟨k, k1, k2, k3, k4⟩ := augAt_ok hn
          obtain ⟨u, u1, u2⟩ := h4.get k4
          have hu : u = .int w := by simpa [Hd] using u2
          subst hu
          refine ⟨a, xs, k, .int w, rfl, po.int k1, e _ _ h3, k2, by rw [k3]; exact u1, om, env, rl.grow e, ?_⟩
          cases hma : ma env with
          | stuck => rw [hma] at q; exact q
          | rs x => rw [hma] at q; exact fun c d H'' e2 ex => q c d om σ H'' (keep_grow rl.tr (e.trans e2)) (rl.grow (e.trans e2)) ex
          | ok z =>
            rw [hma] at q
            simp only at q
            intro z' H'' e2 pz
            split at q
            · rename_i z hz
              have e3 := e.trans e2
              have hj : ixN xs.length k = some n := by
                have := (List.getElem?_eq_some_iff.mp u1).1
                unfold ixN
                rw [if_pos k2, if_pos (by omega), k3]
              obtain ⟨r1, r2⟩ := (rl.grow e3).mut hi h1 h2 ((h4.mono (hide_grow e3)).set (d := .int (f w z)) (v := .int (f w z)) n (by unfold Hd; rfl))
              exact ⟨w, z, rfl, pz.int hz, a, xs, k, n, rfl, po.int k1, e3 _ _ h3, hj, q om σ _ ((keep_grow rl.tr e3).trans r2) r1⟩
            · exact q.elim
        · exact q.elim
    · exact q.elim
/-- name += e (ints) -/
def sAug (f : Int → Int → Int) (i : Nat) (ma : Env → Res P) : Env → Fl := fun env => match env[i]? with
  | some (.fz (.int w)) => match ma env with
    | .ok z => match z.int? with
      | some z => .nx (env.set i (.fz (.int (f w z))))
      | none => .stuck
    | .rs x => .rs x env
    | .stuck => .stuck
  | _ => .stuck
theorem s_aug {op : Operator} {f : Int → Int → Int} {i : Nat} {x : Str} {p3 : Pos} (kx : Kx X Z W) (hi : X.N[i]? = some x) (hx : Loc X.env.scope x) (hp : PIp X op (ipI f)) (he : PE X e (tP Z W ma)) (hf : X.fn x = true ∨ X.env.scope.names.lookup x = some .local := by first | exact .inl rfl | exact .inr rfl | assumption) :
    PS X (.AugAssign (.Name x p3) op e pos) (tS Z W (sAug f i ma)) :=
  (ps_aug kx.nd hi hx he hp hf).pimp fun D σ H ⟨om, env, rl, q⟩ => by
    unfold sAug at q
    split at q
    · rename_i w hi
      obtain ⟨v, h1, h2⟩ := rl.sl i _ hi
      have hv : v = .int w := by simpa [Hd] using h2
      subst hv
      refine ⟨.int w, h1, om, env, rl, ?_⟩
      cases hma : ma env with
      | stuck => rw [hma] at q; exact q
      | rs x => rw [hma] at q; exact fun c d H' e ex => q c d om σ H' (keep_grow rl.tr e) (rl.grow e) ex
      | ok z =>
        rw [hma] at q
        simp only at q
        intro z' H' e pz
        split at q
        · rename_i z hz
          refine ⟨w, z, rfl, pz.int hz, q om _ H' (keep_grow rl.tr e) ((rl.grow e).set (s := .fz (.int (f w z))) ⟨_, rfl, by unfold Hd; rfl⟩ (fun o z => ?_) (fun o z => by cases z) (fun z => ?_))⟩
          · rw [hi] at z; cases z
          · rw [hi] at z; cases z
        · exact q.elim
    · exact q.elim
end
end RC

set_option Elab.async false
set_option linter.all false
set_option maxRecDepth 100000
set_option maxHeartbeats 2000000
/-! R7: loops, comprehensions, whole defs. -/
namespace RC
open PySem PySem.Spec PyProof.Rows L2

def forD (g : D → Env → Option Env) (body : Env → Fl) : List D → Env → Fl
  | [], env => .nx env
  | d :: ds, env => match g d env with
    | none => .stuck
    | some e => match body e with
      | .nx e' => forD g body ds e'
      | .ct e' => forD g body ds e'
      | .bk e' => .nx e'
      | .rt r e' => .rt r e'
      | .rs x e' => .rs x e'
      | .stuck => .stuck
def whD (tc : Env → Res Bool) (body : Env → Fl) : Nat → Env → Fl
  | 0, _ => .stuck
  | n + 1, env => match tc env with
    | .stuck => .stuck
    | .rs x => .rs x env
    | .ok false => .nx env
    | .ok true => match body env with
      | .nx e' => whD tc body n e'
      | .ct e' => whD tc body n e'
      | .bk e' => .nx e'
      | .rt r e' => .rt r e'
      | .rs x e' => .rs x e'
      | .stuck => .stuck

section
variable {X : Cx} {Z : Zc} {W : WX} {e a b c o iter tg : Expr} {es : List Expr} {body : List Stmt} {pos p p2 apos : Pos} {ma mb : Env → Res P} {mo : Env → Res R} {mr : Env → Res (List P)} {om om' : Om} {env : Env} {σ : L2.St} {H H' : Hp} {g : D → Env → Option Env} {sb : Env → Fl} {tc : Env → Res Bool}

/-- one turn -/
theorem turn {De : Ends} {d : D} {ds : List D} {v : V} {Pv : L2.St → Hp → Prop} {om0 : Om} {H0 : Hp} {σ : L2.St} {H : Hp} {tgR : TG} (ht : tgR = tG Z g) (rl : Rel Z om σ H env) (k0 : Keep om0 H0 om H) (hd : Hd Z.g (hide om H) d v)
    (q : FLands (forD g sb (d :: ds) env) (After Z om H De.nx) (After Z om H De.bk) (After Z om H De.ct) (Back Z De.rt) (Up Z om H W))
    (next : ∀ om' σ' H' e', Rel Z om' σ' H' e' → Keep om H om' H' → FLands (forD g sb ds e') (After Z om' H' De.nx) (After Z om' H' De.bk) (After Z om' H' De.ct) (Back Z De.rt) (Up Z om' H' W) → Pv σ' H') :
    tgR v σ H fun σ2 H2 => tS Z W sb { De with nx := Pv, ct := Pv, bk := De.nx } σ2 H2 := by
  subst ht
  unfold forD at q
  cases hg : g d env with
  | none => rw [hg] at q; exact q.elim
  | some e1 =>
    rw [hg] at q
    refine ⟨om, env, d, rl, hd, e1, hg, fun σ' r1 => ⟨om, e1, r1, ?_⟩⟩
    simp only at q
    cases hb : sb e1 with
    | stuck => rw [hb] at q; exact q
    | nx e' => rw [hb] at q; exact fun om' σ' H' k r => next om' σ' H' e' r k (FLands.weak k q)
    | ct e' => rw [hb] at q; exact fun om' σ' H' k r => next om' σ' H' e' r k (FLands.weak k q)
    | bk e' => rw [hb] at q; exact q
    | rt r e' => rw [hb] at q; exact q
    | rs x e' => rw [hb] at q; exact q
/-- what may be walked: fixed, or read only -/
def P.it? : P → Option (List D)
  | .fz (.lst ds) => some ds
  | .bor .amb (.lst ds) => some ds
  | _ => none
theorem POk.it {q : P} {v : V} {ds : List D} {gg : Ga} (h : POk gg om H q v) (e : q.it? = some ds) : ∃ a xs, v = .ref a ∧ Hds gg (hide om H) ds xs ∧ H a = some (.lst xs) ∧ ∀ om' H', Keep om H om' H' → H' a = some (.lst xs) := by
  unfold P.it? at e
  split at e
  · cases e
    simp only [POk, Hd] at h
    obtain ⟨a, xs, h1, h2, h3⟩ := h
    exact ⟨a, xs, h1, h3, hide_same _ _ h2, fun om' H' k => hide_same _ _ (k.st _ _ h2)⟩
  · cases e
    obtain ⟨_, l, hl, a, xs, h1, h2, h3, h4⟩ := h
    exact ⟨a, xs, h1, h4, h3, fun om' H' k => by rw [(k.am a l h2 hl).2]; exact h3⟩
  · cases e
def sFor (it : P → Option (List D)) (ma : Env → Res P) (g : D → Env → Option Env) (sb : Env → Fl) : Env → Fl := fun env => match ma env with
  | .ok p => match it p with
    | some ds => forD g sb ds env
    | none => .stuck
  | .rs x => .rs x env
  | .stuck => .stuck
theorem drop_cons {α : Type} {l : List α} {i : Nat} {d : α} (h : l[i]? = some d) : l.drop i = d :: l.drop (i + 1) := by
  obtain ⟨h1, h2⟩ := List.getElem?_eq_some_iff.mp h
  rw [List.drop_eq_getElem_cons h1, h2]
theorem s_forL (ks : Ks X Z W) (hi : PE X iter (tP Z W ma)) (hg : PG X tg (tG Z g)) (hb : PSs X body (tS Z W sb)) (hs : ∀ x, foldedSetIterable iter X.env x = pure x := by intro _; rfl) (hz : Z.hot = false := by rfl) : PS X (.For tg iter body [] pos) (tS Z W (sFor P.it? ma g sb)) :=
  (ps_for ks.pass (ks.calm hz) (pi_list hi) hg hb hs).pimp fun De σ H ⟨om, env, rl, q⟩ => by
    unfold sFor at q
    refine ⟨om, env, rl, ?_⟩
    cases hma : ma env with
    | stuck => rw [hma] at q; exact q
    | rs x => rw [hma] at q; exact fun c d H' e ex => q c d om σ H' (keep_grow rl.tr e) (rl.grow e) ex
    | ok pp =>
      rw [hma] at q
      simp only at q
      intro v H1 e1 po
      cases hit : pp.it? with
      | none => rw [hit] at q; exact q.elim
      | some ds =>
        rw [hit] at q
        simp only at q
        obtain ⟨a, xs, h1, h2, h3, h4⟩ := po.it hit
        refine ⟨a, h1, ⟨xs, SqL.of h3⟩, ?_⟩
        have k1 : Keep om H om H1 := keep_grow rl.tr e1
        refine for_list (xs := xs) (fun i σ' H' => ∃ om' env', Rel Z om' σ' H' env' ∧ Keep om H1 om' H' ∧ FLands (forD g sb (ds.drop i) env') (After Z om' H' De.nx) (After Z om' H' De.bk) (After Z om' H' De.ct) (Back Z De.rt) (Up Z om' H' W))
          ⟨om, env, rl.grow e1, Keep.refl _ _, FLands.weak k1 q⟩ (fun i σ' H' _ ⟨om', env', _, k, _⟩ => SqL.of (h4 om' H' k)) (fun i x σ' H' hx ⟨om', env', r, k, w⟩ => ?_) (fun σ' H' ⟨om', env', r, k, w⟩ => ?_)
        · obtain ⟨d, hd1, hd2⟩ := (h2.mono k.st).get' hx
          rw [drop_cons hd1] at w
          exact turn rfl r k hd2 w fun om2 σ2 H2 e2 r2 k2 w2 => ⟨om2, e2, r2, k.trans k2, w2⟩
        · rw [← h2.len, List.drop_length] at w
          exact w om' σ' H' (Keep.refl _ _) r
theorem s_forT (ks : Ks X Z W) (hi : PE X iter (tP Z W ma)) (hg : PG X tg (tG Z g)) (hb : PSs X body (tS Z W sb)) (hs : ∀ x, foldedSetIterable iter X.env x = pure x := by intro _; rfl) (hz : Z.hot = false := by rfl) : PS X (.For tg iter body [] pos) (tS Z W (sFor P.tup? ma g sb)) :=
  (ps_for ks.pass (ks.calm hz) (pi_tup hi) hg hb hs).pimp fun De σ H ⟨om, env, rl, q⟩ => by
    unfold sFor at q
    refine ⟨om, env, rl, ?_⟩
    cases hma : ma env with
    | stuck => rw [hma] at q; exact q
    | rs x => rw [hma] at q; exact fun c d H' e ex => q c d om σ H' (keep_grow rl.tr e) (rl.grow e) ex
    | ok pp =>
      rw [hma] at q
      simp only at q
      intro v H1 e1 po
      cases hit : pp.tup? with
      | none => rw [hit] at q; exact q.elim
      | some ds =>
        rw [hit] at q
        simp only at q
        have hd := tup_of po hit
        simp only [Hd] at hd
        obtain ⟨a, xs, h1, h3, h2⟩ := hd
        refine ⟨a, h1, ⟨xs, SqT.of (hide_same _ _ h3)⟩, ?_⟩
        have k1 : Keep om H om H1 := keep_grow rl.tr e1
        refine for_tup (xs := xs) (fun i σ' H' => ∃ om' env', Rel Z om' σ' H' env' ∧ Keep om H1 om' H' ∧ FLands (forD g sb (ds.drop i) env') (After Z om' H' De.nx) (After Z om' H' De.bk) (After Z om' H' De.ct) (Back Z De.rt) (Up Z om' H' W))
          ⟨om, env, rl.grow e1, Keep.refl _ _, FLands.weak k1 q⟩ (fun i σ' H' _ ⟨om', env', _, k, _⟩ => SqT.of (hide_same _ _ (k.st _ _ h3))) (fun i x σ' H' hx ⟨om', env', r, k, w⟩ => ?_) (fun σ' H' ⟨om', env', r, k, w⟩ => ?_)
        · obtain ⟨d, hd1, hd2⟩ := (h2.mono k.st).get' hx
          rw [drop_cons hd1] at w
          exact turn rfl r k hd2 w fun om2 σ2 H2 e2 r2 k2 w2 => ⟨om2, e2, r2, k.trans k2, w2⟩
        · rw [← h2.len, List.drop_length] at w
          exact w om' σ' H' (Keep.refl _ _) r
/-- the ints of a range, as data -/
def rngD (lo : Int) (n : Nat) : List D := (List.range n).map fun (k : Nat) => D.int (lo + (k : Int))
theorem rngD_get {lo : Int} {n i : Nat} (h : i < n) : (rngD lo n)[i]? = some (.int (lo + (i : Int))) := by
  unfold rngD
  rw [List.getElem?_map, List.getElem?_range h]
  rfl
theorem rngD_len {lo : Int} {n : Nat} : (rngD lo n).length = n := by simp [rngD]
def kRng1 : List P → Option (Int × Nat)
  | [x] => match x.int? with
    | some j => if -4611686018427387904 ≤ j ∧ j < 4611686018427387904 then some (0, j.toNat) else none
    | none => none
  | _ => none
def kRng2 : List P → Option (Int × Nat)
  | [x, y] => match x.int?, y.int? with
    | some i, some j => if -4611686018427387904 ≤ i ∧ i < 4611686018427387904 ∧ -4611686018427387904 ≤ j ∧ j < 4611686018427387904 then some (i, (j - i).toNat) else none
    | _, _ => none
  | _ => none
def sForR (k : List P → Option (Int × Nat)) (mr : Env → Res (List P)) (g : D → Env → Option Env) (sb : Env → Fl) : Env → Fl := fun env => match oneA k mr env with
  | .ok z => forD g sb (rngD z.1 z.2) env
  | .rs x => .rs x env
  | .stuck => .stuck
theorem for_rng {De : Ends} {lo : Int} {n : Nat} {H1 : Hp} (rl : Rel Z om σ H1 env) (q : FLands (forD g sb (rngD lo n) env) (After Z om H1 De.nx) (After Z om H1 De.bk) (After Z om H1 De.ct) (Back Z De.rt) (Up Z om H1 W)) :
    ∃ W' : Nat → Nat → L2.St → Hp → Prop, (∃ m, W' 0 m σ H1) ∧ ∀ i m σ H, W' i m σ H →
      ((Itr lo n).stop i H ∧ De.nx σ H) ∨ ((Itr lo n).go i H ∧ ∃ N : L2.St → Hp → Prop, (∀ σ' H', N σ' H' → ∃ m', m' < m ∧ W' (i + 1) m' σ' H') ∧ ∀ x H', (Itr lo n).yld i H x H' → tG Z g x σ H' fun σ2 H2 => tS Z W sb { De with nx := N, ct := N, bk := De.nx } σ2 H2) := by
  refine for_range (fun i σ' H' => ∃ om' env', Rel Z om' σ' H' env' ∧ Keep om H1 om' H' ∧ FLands (forD g sb ((rngD lo n).drop i) env') (After Z om' H' De.nx) (After Z om' H' De.bk) (After Z om' H' De.ct) (Back Z De.rt) (Up Z om' H' W))
    ⟨om, env, rl, Keep.refl _ _, q⟩ (fun i σ' H' hi ⟨om', env', r, k, w⟩ => ?_) (fun σ' H' ⟨om', env', r, k, w⟩ => ?_)
  · rw [drop_cons (rngD_get hi)] at w
    exact turn rfl r k (by unfold Hd; rfl) w fun om2 σ2 H2 e2 r2 k2 w2 => ⟨om2, e2, r2, k.trans k2, w2⟩
  · have : (rngD lo n).drop n = [] := by rw [List.drop_eq_nil_iff]; exact Nat.le_of_eq rngD_len
    rw [this] at w
    exact w om' σ' H' (Keep.refl _ _) r
theorem s_forR1 (ks : Ks X Z W) (hm : X.mg "range" = none) (ha : PA X [a] (tA Z W mr)) (hg : PG X tg (tG Z g)) (hb : PSs X body (tS Z W sb)) (hgl : Gl X "range" := by rfl) (hst : starEach [a] X.env = [(false, eval a X.env)] := by rfl)
    (hs : ∀ x, foldedSetIterable (.Call (.Name "range" p) [a] [] p2) X.env x = pure x := by intro _; rfl) (hz : Z.hot = false := by rfl) : PS X (.For tg (.Call (.Name "range" p) [a] [] p2) body [] pos) (tS Z W (sForR kRng1 mr g sb)) :=
  (ps_for ks.pass (ks.calm hz) (pi_range1 hgl hm ha hst) hg hb hs).pimp fun De σ H ⟨om, env, rl, q⟩ => by
    unfold sForR oneA at q
    refine ⟨om, env, rl, ?_⟩
    cases hma : mr env with
    | stuck => rw [hma] at q; exact q
    | rs x => rw [hma] at q; exact fun c d H' e ex => q c d om σ H' (keep_grow rl.tr e) (rl.grow e) ex
    | ok ps =>
      rw [hma] at q
      simp only [Res.bind] at q
      intro vs H1 e1 po
      cases hk : kRng1 ps with
      | none => rw [hk] at q; exact q.elim
      | some z =>
        rw [hk] at q
        simp only [Res.of] at q
        unfold kRng1 at hk
        split at hk
        · rename_i x
          obtain ⟨v, rfl, p1⟩ := po.one
          split at hk
          · rename_i j hj
            split at hk
            · rename_i hb
              cases hk
              exact ⟨j, by rw [p1.int hj], hb.1, hb.2, for_rng (rl.grow e1) (FLands.weak (keep_grow rl.tr e1) q)⟩
            · cases hk
          · cases hk
        · cases hk
theorem s_forR2 (ks : Ks X Z W) (hm : X.mg "range" = none) (ha : PA X [a, b] (tA Z W mr)) (hg : PG X tg (tG Z g)) (hb : PSs X body (tS Z W sb)) (hgl : Gl X "range" := by rfl) (hst : starEach [a, b] X.env = [(false, eval a X.env), (false, eval b X.env)] := by rfl) (hst2 : starEach [b] X.env = [(false, eval b X.env)] := by rfl)
    (hs : ∀ x, foldedSetIterable (.Call (.Name "range" p) [a, b] [] p2) X.env x = pure x := by intro _; rfl) (hz : Z.hot = false := by rfl) : PS X (.For tg (.Call (.Name "range" p) [a, b] [] p2) body [] pos) (tS Z W (sForR kRng2 mr g sb)) :=
  (ps_for ks.pass (ks.calm hz) (pi_range2 hgl hm ha hst hst2) hg hb hs).pimp fun De σ H ⟨om, env, rl, q⟩ => by
    unfold sForR oneA at q
    refine ⟨om, env, rl, ?_⟩
    cases hma : mr env with
    | stuck => rw [hma] at q; exact q
    | rs x => rw [hma] at q; exact fun c d H' e ex => q c d om σ H' (keep_grow rl.tr e) (rl.grow e) ex
    | ok ps =>
      rw [hma] at q
      simp only [Res.bind] at q
      intro vs H1 e1 po
      cases hk : kRng2 ps with
      | none => rw [hk] at q; exact q.elim
      | some z =>
        rw [hk] at q
        simp only [Res.of] at q
        unfold kRng2 at hk
        split at hk
        · rename_i x y
          obtain ⟨v, u, rfl, p1, p2⟩ := po.two
          split at hk
          · rename_i i j hi hj
            split at hk
            · rename_i hb
              cases hk
              exact ⟨i, j, by rw [p1.int hi, p2.int hj], hb, for_rng (rl.grow e1) (FLands.weak (keep_grow rl.tr e1) q)⟩
            · cases hk
          · cases hk
        · cases hk
theorem s_while (fuel : Nat) (ks : Ks X Z W) (hc : PT X c (tB Z W tc)) (hb : PSs X body (tS Z W sb)) : PS X (.While c body [] pos) (tS Z W (whD tc sb fuel)) :=
  (ps_while ks.pass hc hb).pimp fun De σ H ⟨om, env, rl, q⟩ => by
    refine ⟨fun m σ' H' => ∃ om' env', Rel Z om' σ' H' env' ∧ FLands (whD tc sb m env') (After Z om' H' De.nx) (After Z om' H' De.bk) (After Z om' H' De.ct) (Back Z De.rt) (Up Z om' H' W), ⟨fuel, om, env, rl, q⟩, ?_⟩
    rintro m σ' H' ⟨om', env', r, w⟩
    refine ⟨om', env', r, ?_⟩
    cases m with
    | zero => exact w.elim
    | succ m =>
      unfold whD at w
      cases hx : tc env' with
      | stuck => rw [hx] at w; exact w
      | rs x => rw [hx] at w; exact fun c d H' e ex => w c d om' σ' H' (keep_grow r.tr e) (r.grow e) ex
      | ok x =>
        rw [hx] at w
        intro H1 e1
        have k1 := keep_grow r.tr e1
        cases x with
        | false =>
          rw [if_neg Bool.false_ne_true]
          exact w om' σ' H1 k1 (r.grow e1)
        | true =>
          rw [if_pos rfl]
          simp only at w
          refine ⟨fun σ2 H2 => ∃ om2 env2, Rel Z om2 σ2 H2 env2 ∧ FLands (whD tc sb m env2) (After Z om2 H2 De.nx) (After Z om2 H2 De.bk) (After Z om2 H2 De.ct) (Back Z De.rt) (Up Z om2 H2 W), fun σ2 H2 h => ⟨m, Nat.lt_succ_self _, h⟩, om', env', r.grow e1, ?_⟩
          have w := FLands.weak k1 w
          cases hb : sb env' with
          | stuck => rw [hb] at w; exact w
          | nx e' => rw [hb] at w; exact fun om2 σ2 H2 k r2 => ⟨om2, e', r2, FLands.weak k w⟩
          | ct e' => rw [hb] at w; exact fun om2 σ2 H2 k r2 => ⟨om2, e', r2, FLands.weak k w⟩
          | bk e' => rw [hb] at w; exact w
          | rt r e' => rw [hb] at w; exact w
          | rs x e' => rw [hb] at w; exact w
end

/-! ### comprehensions -/
abbrev W0 : WX := fun _ _ _ _ => False
theorem Kx.blk {X : Cx} {Z : Zc} {W : WX} (k : Kx X Z W) (s : Shared) (H : Hp) (scope : Scope) (cenv : PySem.Env) (fp : List Addr) : Kx (X.blk s H scope cenv fp) Z W0 :=
  ⟨k.gK, k.gm, k.calm, k.hu, fun σ pins H s e s' I c => by obtain ⟨_, _, _, _, _, _, _, _, _, _, _, _, h⟩ := c; exact h.elim, k.nd⟩
/-- the block's own slots emptied -/
def wipeE (env : Env) : List Nat → Env
  | [] => env
  | v :: vs => (wipeE env vs).set v .un
def compD (g : D → Env → Option Env) (tc : Env → Res Bool) (me : Env → Res P) (env : Env) : List D → List D → Res (List D)
  | [], acc => .ok acc
  | d :: ds, acc => match g d env with
    | none => .stuck
    | some e => match tc e with
      | .ok false => compD g tc me env ds acc
      | .ok true => match me e with
        | .ok (.fz y) => compD g tc me env ds (acc ++ [y])
        | _ => .stuck
      | _ => .stuck
section
variable {X : Cx} {Z : Zc} {W : WX} {om om' : Om} {env : Env} {σ : L2.St} {H H' : Hp}
theorem wipe_rel (vs : List Nat) (rl : Rel Z om σ H env) (h0 : ∀ v, v ∈ vs → ∀ o, env[v]? ≠ some (.mu o)) : Rel Z om (wipe σ vs) H (wipeE env vs) := by
  induction vs with
  | nil => exact rl
  | cons v vs ih =>
    have r := ih fun w hw => h0 w (List.mem_cons_of_mem _ hw)
    show Rel Z om ((wipe σ vs).set v none) H ((wipeE env vs).set v .un)
    refine ⟨r.tr, r.nt, r.kp, by simp [r.ln], fun j s hj => ?_, fun o ho => ?_⟩
    · by_cases z : j = v
      · subst z
        cases hl : (wipeE env vs)[j]? with
        | none => rw [List.getElem?_eq_none (by rw [List.length_set]; exact List.getElem?_eq_none_iff.mp hl)] at hj; cases hj
        | some _ => rw [List.getElem?_set_self (List.getElem?_eq_some_iff.mp hl).1] at hj; cases hj; trivial
      · rw [List.getElem?_set_ne (fun w => z w.symm)] at hj ⊢
        exact r.sl j s hj
    · by_cases z : 0 = v
      · subst z
        cases hl : (wipeE env vs)[0]? with
        | none => rw [List.getElem?_eq_none (by rw [List.length_set]; exact List.getElem?_eq_none_iff.mp hl)] at ho; cases ho
        | some _ => rw [List.getElem?_set_self (List.getElem?_eq_some_iff.mp hl).1] at ho; cases ho
      · rw [List.getElem?_set_ne (fun w => z w.symm)] at ho ⊢
        exact r.mu o ho
def tYesB : Env → Res Bool := fun _ => .ok true
theorem ts_nil : PTs X [] (tB Z W tYesB) := ⟨fun pins s σ H Q I ⟨om, env, rl, q⟩ => pts_nil.run pins s σ H Q I (q H (Same.refl _))⟩
theorem Rel.mutX (rl : Rel Z om σ H env) {q : Addr} {L : Nat} {u : HO} (hq : om q = some (.slot L)) (hL : env.length ≤ L) : Rel Z om σ (upd H q u) env := by
  have k : Keep om H om (upd H q u) := keep_mut hq (fun z => by cases z)
  refine ⟨fun a l h => ?_, rl.nt, rl.kp.trans k, rl.ln, fun j s hj => ?_, rl.mu⟩
  · by_cases z : a = q
    · subst z; exact ⟨_, upd_same⟩
    · rw [upd_ne z]; exact rl.tr a l h
  · refine (rl.sl j s hj).mono k.st fun r hr a l h' hl' => ⟨h', ?_⟩
    rw [upd_ne]
    intro w
    subst w
    rw [hq] at h'
    cases h'
    have := (List.getElem?_eq_some_iff.mp hj).1
    rcases hr with rfl | rfl
    · cases hl'
    · cases hl'; omega
theorem wipeE_len (env : Env) : ∀ vs, (wipeE env vs).length = env.length
  | [] => rfl
  | v :: vs => by show ((wipeE env vs).set v .un).length = _; rw [List.length_set, wipeE_len env vs]
/-- a comprehension over the data ds, the block's name in slot v -/
def mComp (v : Nat) (tc : Env → Res Bool) (me : Env → Res P) (ds : List D) (env : Env) : Res R := if free? env v = true ∧ ds.length ≤ 16777216 then (match compD (gN v) tc me (wipeE env [v]) ds [] with
  | .ok z => .ok (.tmp (.lst z))
  | _ => .stuck) else .stuck
/-- what holds at a comprehension's turn -/
def CSt (Z : Zc) (om : Om) (σ : L2.St) (env : Env) (H1 : Hp) (v : Nat) (A : Addr) (tc : Env → Res Bool) (me : Env → Res P) (ds z : List D) (i : Nat) (H' : Hp) : Prop :=
  ∃ dacc acc, H' A = some (.lst acc) ∧ Rel Z (lab om A (.slot env.length)) (wipe σ [v]) H' (wipeE env [v]) ∧ Hds Z.g (hide (lab om A (.slot env.length)) H') dacc acc ∧ Same H1 H' ∧ dacc.length ≤ i ∧ compD (gN v) tc me (wipeE env [v]) (ds.drop i) dacc = .ok z
variable {v : Nat} {A : Addr} {tc : Env → Res Bool} {me : Env → Res P} {ds z : List D} {H1 : Hp}
theorem comp_start (rl : Rel Z om σ H1 env) (hA : H1 A = none) (h0 : ∀ o, env[v]? ≠ some (.mu o)) (q : compD (gN v) tc me (wipeE env [v]) ds [] = .ok z) : CSt Z om σ env H1 v A tc me ds z 0 (upd H1 A (.lst [])) := by
  refine ⟨[], [], upd_same, ?_, .nil, same_new hA, Nat.le_refl _, q⟩
  have oA : om A = none := om_none rl.tr hA
  have hh : hide (lab om A (.slot env.length)) (upd H1 A (.lst [])) = hide om H1 := hide_lab hA
  have r0 : Rel Z (lab om A (.slot env.length)) σ (upd H1 A (.lst [])) env := rl.relab ⟨by rw [hh]; exact Same.refl _, fun a l h hr => by
      have w : a ≠ A := fun w => by subst w; rw [oA] at h; cases h
      exact ⟨by rw [lab_ne w]; exact h, by rw [upd_ne w]⟩, fun a l h hr => by
      by_cases w : a = A
      · subst w; rw [lab_same] at h; cases h; cases hr
      · rw [lab_ne w] at h; exact h⟩ (fun a l h => by
      by_cases w : a = A
      · subst w; exact ⟨_, upd_same⟩
      · rw [lab_ne w] at h
        rw [upd_ne w]
        exact rl.tr a l h) (fun a l h => by
      by_cases w : a = A
      · subst w; rw [lab_same] at h; cases h; exact fun z => by cases z
      · rw [lab_ne w] at h
        exact rl.nt a l h) (fun a l h => by
      have w : a ≠ A := fun w => by subst w; rw [oA] at h; cases h
      rw [lab_ne w]; exact h) (same_new hA)
  exact wipe_rel [v] r0 fun w hw o => by
    have : w = v := by simpa using hw
    subst this
    exact h0 o
theorem comp_turn {x : V} {d : D} {i : Nat} {T2 : V → Hp → Prop} (hlen : ds.length ≤ 16777216) (hd1 : ds[i]? = some d) (hA : H1 A = none) (c : CSt Z om σ env H1 v A tc me ds z i H') (hd : Hd Z.g (hide (lab om A (.slot env.length)) H') d x) :
    gName v x (wipe σ [v]) H' fun σ2 H2 => wipe σ2 [v] = wipe σ [v] ∧ tB Z W0 tc σ2 H2 fun b H3 => if b = true then tP Z W0 me σ2 H3 fun y H4 => ∃ acc, H4 A = some (.lst acc) ∧ acc.length < sizeLine ∧ CSt Z om σ env H1 v A tc me ds z (i + 1) (upd H4 A (.lst (acc ++ [y]))) else CSt Z om σ env H1 v A tc me ds z (i + 1) H3 := by
  obtain ⟨dacc, acc, c1, c2, c3, c4, c5, c6⟩ := c
  have hi := (List.getElem?_eq_some_iff.mp hd1).1
  rw [drop_cons hd1] at c6
  unfold compD at c6
  cases hg : gN v d (wipeE env [v]) with
  | none => rw [hg] at c6; cases c6
  | some e1 =>
    rw [hg] at c6
    simp only at c6
    have r1 : Rel Z (lab om A (.slot env.length)) ((wipe σ [v]).set v (some x)) H' e1 := setP_ok (p := .fz d) c2 hd hg
    refine ⟨?_, lab om A (.slot env.length), e1, r1, ?_⟩
    · show (((σ.set v none).set v (some x)).set v none) = σ.set v none
      rw [List.set_set, List.set_set]
    · have lA : lab om A (.slot env.length) A = some (.slot env.length) := lab_same
      have hl2 : (wipeE env [v]).length ≤ env.length := Nat.le_of_eq (wipeE_len _ _)
      cases ht : tc e1 with
      | stuck => rw [ht] at c6; cases c6
      | rs w => rw [ht] at c6; cases c6
      | ok b =>
        rw [ht] at c6
        intro H3 e3
        cases b with
        | false =>
          rw [if_neg Bool.false_ne_true]
          exact ⟨dacc, acc, e3 _ _ c1, c2.grow e3, c3.mono (hide_grow e3), c4.trans e3, by omega, c6⟩
        | true =>
          rw [if_pos rfl]
          simp only at c6
          refine ⟨lab om A (.slot env.length), e1, r1.grow e3, ?_⟩
          cases hm : me e1 with
          | stuck => rw [hm] at c6; cases c6
          | rs w => rw [hm] at c6; cases c6
          | ok pp =>
            rw [hm] at c6
            cases pp with
            | bor l o => cases c6
            | fz y =>
              simp only at c6
              intro w H4 e4 pw
              have e34 := e3.trans e4
              have hc := e34 _ _ c1
              refine ⟨acc, hc, ?_, dacc ++ [y], acc ++ [w], upd_same, (c2.grow e34).mutX lA hl2, ?_, ?_, ?_, c6⟩
              · rw [← c3.len, sizeLine_eq]; omega
              · rw [hide_mut lA]
                exact (c3.mono (hide_grow e34)).app (.one pw)
              · intro a u hu
                rw [upd_ne (ne_of_none hu hA)]
                exact e34 a u (c4 a u hu)
              · simp; omega
theorem comp_end {Q : VK} {H0 : Hp} (rl : Rel Z om σ H0 env) (e0 : Same H0 H1) (hA : H1 A = none) (c : CSt Z om σ env H1 v A tc me ds z ds.length H')
    (q : ∀ v om' H', New om H0 om' H' → ROk Z.g om' H' (.tmp (.lst z)) v → Q v H') : Q (.ref A) H' := by
  obtain ⟨dacc, acc, c1, c2, c3, c4, c5, c6⟩ := c
  rw [List.drop_length] at c6
  unfold compD at c6
  cases c6
  have oA : om A = none := om_none rl.tr (e0.free hA)
  have hh : hide (lab om A .tmp) H' = hide (lab om A (.slot env.length)) H' := hide_none fun a => by
    by_cases w : a = A
    · subst w; rw [lab_same, lab_same]; simp
    · rw [lab_ne w, lab_ne w]
  refine q (.ref A) (lab om A .tmp) H' ⟨e0.trans c4, fun a l h => ?_, fun a l h => ?_⟩ ⟨A, acc, rfl, lab_same, c1, by rw [hh]; exact c3⟩
  · rw [lab_ne (fun w => by subst w; rw [oA] at h; cases h)]; exact h
  · by_cases w : a = A
    · subst w
      rw [lab_same] at h
      cases h
      exact .inr ⟨e0.free hA, rfl, _, c1⟩
    · rw [lab_ne w] at h
      exact .inl h
end
section
variable {X : Cx} {Z : Zc} {W : WX} {a b iter elt tg : Expr} {ifs : List Expr} {scope : Scope} {pos p p2 py spos : Pos} {ma : Env → Res P} {mr : Env → Res (List P)} {v : Nat} {tc : Env → Res Bool} {me : Env → Res P}
/-- .. over a list, a tuple -/
def mLc (it : P → Option (List D)) (v : Nat) (ma : Env → Res P) (tc : Env → Res Bool) (me : Env → Res P) : Env → Res R := fun env => match ma env with
  | .ok pp => match it pp with
    | some ds => mComp v tc me ds env
    | none => .stuck
  | .rs x => .rs x
  | .stuck => .stuck
theorem mComp_ok {ds : List D} {env : Env} {A : R → Prop} {B : Exc → Prop} (q : Lands (mComp v tc me ds env) A B) : free? env v = true ∧ ds.length ≤ 16777216 ∧ ∃ z, compD (gN v) tc me (wipeE env [v]) ds [] = .ok z ∧ A (.tmp (.lst z)) := by
  unfold mComp at q
  split at q
  · rename_i h
    cases hc : compD (gN v) tc me (wipeE env [v]) ds [] with
    | ok z => rw [hc] at q; exact ⟨h.1, h.2, z, rfl, q⟩
    | rs x => rw [hc] at q; exact q.elim
    | stuck => rw [hc] at q; exact q.elim
  · exact q.elim
theorem lcL_imp : ∀ σ H Q, tO Z W (mLc P.it? v ma tc me) σ H Q → tLc (iList X.K (tP Z W ma)) (gName v) (tB Z W0 tc) (tP Z W0 me) [v] σ H Q := fun σ H Q ⟨om, env, rl, q⟩ => by
  unfold mLc at q
  refine ⟨om, env, rl, ?_⟩
  cases hma : ma env with
  | stuck => rw [hma] at q; exact q
  | rs x => rw [hma] at q; exact q
  | ok pp =>
    rw [hma] at q
    simp only at q
    intro w H1 e1 po
    cases hit : pp.it? with
    | none => rw [hit] at q; exact q.elim
    | some ds =>
      rw [hit] at q
      obtain ⟨q1, q2, z, q3, q4⟩ := mComp_ok q
      obtain ⟨a, xs, h1, h2, h3, h4⟩ := po.it hit
      refine ⟨a, h1, ⟨xs, SqL.of h3⟩, fun A hA => ?_⟩
      have rl1 := rl.grow e1
      have sub : ∀ H', Same H1 H' → Same (hide om H1) (hide (lab om A (.slot env.length)) H') := fun H' s x u w => by
        obtain ⟨w1, w2⟩ := hide_iff.mp w
        exact hide_iff.mpr ⟨by rw [lab_ne (ne_of_none w2 hA)]; exact w1, s _ _ w2⟩
      refine lc_list (xs := xs) (CSt Z om σ env H1 v A tc me ds z) (comp_start rl1 hA (free_ok q1).1 q3) (fun i H' _ c => ?_) (fun i x H' hx c => ?_) (fun H' c => ?_)
      · obtain ⟨_, _, _, _, _, s, _⟩ := c
        exact SqL.of (s _ _ h3)
      · obtain ⟨d, hd1, hd2⟩ := h2.get' hx
        have s : Same H1 H' := by obtain ⟨_, _, _, _, _, s, _⟩ := c; exact s
        exact comp_turn (T2 := fun _ _ => True) q2 hd1 hA c (hd2.mono (sub H' s))
      · rw [← h2.len] at c
        exact comp_end rl e1 hA c q4
theorem lcT_imp : ∀ σ H Q, tO Z W (mLc P.tup? v ma tc me) σ H Q → tLc (iTup X.K (tP Z W ma)) (gName v) (tB Z W0 tc) (tP Z W0 me) [v] σ H Q := fun σ H Q ⟨om, env, rl, q⟩ => by
  unfold mLc at q
  refine ⟨om, env, rl, ?_⟩
  cases hma : ma env with
  | stuck => rw [hma] at q; exact q
  | rs x => rw [hma] at q; exact q
  | ok pp =>
    rw [hma] at q
    simp only at q
    intro w H1 e1 po
    cases hit : pp.tup? with
    | none => rw [hit] at q; exact q.elim
    | some ds =>
      rw [hit] at q
      obtain ⟨q1, q2, z, q3, q4⟩ := mComp_ok q
      obtain ⟨a, xs, h1, h3, h2⟩ := po.tup hit
      refine ⟨a, h1, ⟨xs, SqT.of h3⟩, fun A hA => ?_⟩
      have rl1 := rl.grow e1
      have sub : ∀ H', Same H1 H' → Same (hide om H1) (hide (lab om A (.slot env.length)) H') := fun H' s x u w => by
        obtain ⟨w1, w2⟩ := hide_iff.mp w
        exact hide_iff.mpr ⟨by rw [lab_ne (ne_of_none w2 hA)]; exact w1, s _ _ w2⟩
      refine lc_tup (xs := xs) (CSt Z om σ env H1 v A tc me ds z) (comp_start rl1 hA (free_ok q1).1 q3) (fun i H' _ c => ?_) (fun i x H' hx c => ?_) (fun H' c => ?_)
      · obtain ⟨_, _, _, _, _, s, _⟩ := c
        exact SqT.of (s _ _ h3)
      · obtain ⟨d, hd1, hd2⟩ := h2.get' hx
        have s : Same H1 H' := by obtain ⟨_, _, _, _, _, s, _⟩ := c; exact s
        exact comp_turn (T2 := fun _ _ => True) q2 hd1 hA c (hd2.mono (sub H' s))
      · rw [← h2.len] at c
        exact comp_end rl e1 hA c q4
def mLcR (k : List P → Option (Int × Nat)) (v : Nat) (mr : Env → Res (List P)) (tc : Env → Res Bool) (me : Env → Res P) : Env → Res R := fun env => match oneA k mr env with
  | .ok z => mComp v tc me (rngD z.1 z.2) env
  | .rs x => .rs x
  | .stuck => .stuck
theorem lc_rng {om : Om} {env : Env} {σ : L2.St} {H0 H1 : Hp} {lo : Int} {n : Nat} {Q : VK} {B : Exc → Prop} (rl : Rel Z om σ H0 env) (e1 : Same H0 H1) (q : Lands (mComp v tc me (rngD lo n) env) (fun r => ∀ v om' H', New om H0 om' H' → ROk Z.g om' H' r v → Q v H') B) {A : Addr} (hA : H1 A = none) :
    ∃ W' : Nat → Nat → Hp → Prop, (∃ m, W' 0 m (upd H1 A (.lst []))) ∧ ∀ i m H, W' i m H →
      ((Itr lo n).stop i H ∧ Q (.ref A) H) ∨ ((Itr lo n).go i H ∧ ∃ Nx : Hp → Prop, (∀ H', Nx H' → ∃ m', m' < m ∧ W' (i + 1) m' H') ∧ ∀ x H', (Itr lo n).yld i H x H' → gName v x (wipe σ [v]) H' fun σ2 H2 => wipe σ2 [v] = wipe σ [v] ∧ tB Z W0 tc σ2 H2 fun b H3 =>
        if b = true then tP Z W0 me σ2 H3 fun y H4 => ∃ acc, H4 A = some (.lst acc) ∧ acc.length < sizeLine ∧ Nx (upd H4 A (.lst (acc ++ [y]))) else Nx H3) := by
  obtain ⟨q1, q2, z, q3, q4⟩ := mComp_ok q
  have rl1 := rl.grow e1
  refine lc_range (CSt Z om σ env H1 v A tc me (rngD lo n) z) (comp_start rl1 hA (free_ok q1).1 q3) (fun i H' hi c => ?_) (fun H' c => ?_)
  · exact comp_turn (T2 := fun _ _ => True) q2 (rngD_get hi) hA c (by unfold Hd; rfl)
  · have c' : CSt Z om σ env H1 v A tc me (rngD lo n) z (rngD lo n).length H' := by rw [rngD_len]; exact c
    exact comp_end rl e1 hA c' q4
theorem lcR1_imp : ∀ σ H Q, tO Z W (mLcR kRng1 v mr tc me) σ H Q → tLc (iRng1 (tA Z W mr)) (gName v) (tB Z W0 tc) (tP Z W0 me) [v] σ H Q := fun σ H Q ⟨om, env, rl, q⟩ => by
  unfold mLcR oneA at q
  refine ⟨om, env, rl, ?_⟩
  cases hma : mr env with
  | stuck => rw [hma] at q; exact q
  | rs x => rw [hma] at q; exact q
  | ok ps =>
    rw [hma] at q
    simp only [Res.bind] at q
    intro vs H1 e1 po
    cases hk : kRng1 ps with
    | none => rw [hk] at q; exact q.elim
    | some z =>
      rw [hk] at q
      simp only [Res.of] at q
      unfold kRng1 at hk
      split at hk
      · rename_i x
        obtain ⟨v, rfl, p1⟩ := po.one
        split at hk
        · rename_i j hj
          split at hk
          · rename_i hb
            cases hk
            exact ⟨j, by rw [p1.int hj], hb.1, hb.2, fun A hA => lc_rng rl e1 q hA⟩
          · cases hk
        · cases hk
      · cases hk
theorem lcR2_imp : ∀ σ H Q, tO Z W (mLcR kRng2 v mr tc me) σ H Q → tLc (iRng2 (tA Z W mr)) (gName v) (tB Z W0 tc) (tP Z W0 me) [v] σ H Q := fun σ H Q ⟨om, env, rl, q⟩ => by
  unfold mLcR oneA at q
  refine ⟨om, env, rl, ?_⟩
  cases hma : mr env with
  | stuck => rw [hma] at q; exact q
  | rs x => rw [hma] at q; exact q
  | ok ps =>
    rw [hma] at q
    simp only [Res.bind] at q
    intro vs H1 e1 po
    cases hk : kRng2 ps with
    | none => rw [hk] at q; exact q.elim
    | some z =>
      rw [hk] at q
      simp only [Res.of] at q
      unfold kRng2 at hk
      split at hk
      · rename_i x y
        obtain ⟨v, u, rfl, p1, p2⟩ := po.two
        split at hk
        · rename_i i j hi hj
          split at hk
          · rename_i hb
            cases hk
            exact ⟨i, j, by rw [p1.int hi, p2.int hj], hb, fun A hA => lc_rng rl e1 q hA⟩
          · cases hk
        · cases hk
      · cases hk
abbrev BG (X : Cx) (scope : Scope) (tg : Expr) (v : Nat) : Prop := ∀ (s : Shared) (H : Hp) (C : Addr) (cl : List (Str × Addr)) (fp : List Addr), PG (X.blk s H scope (compEnvC scope cl C X.env) fp) tg (gName v)
abbrev BT (X : Cx) (Z : Zc) (scope : Scope) (ifs : List Expr) (tc : Env → Res Bool) : Prop := ∀ (s : Shared) (H : Hp) (C : Addr) (cl : List (Str × Addr)) (fp : List Addr), Kx (X.blk s H scope (compEnvC scope cl C X.env) fp) Z W0 → PTs (X.blk s H scope (compEnvC scope cl C X.env) fp) ifs (tB Z W0 tc)
abbrev BE (X : Cx) (Z : Zc) (scope : Scope) (elt : Expr) (me : Env → Res P) : Prop := ∀ (s : Shared) (H : Hp) (C : Addr) (cl : List (Str × Addr)) (fp : List Addr), Kx (X.blk s H scope (compEnvC scope cl C X.env) fp) Z W0 → PE (X.blk s H scope (compEnvC scope cl C X.env) fp) elt (tP Z W0 me)
theorem r_lc {wi : TI} {m : Env → Res R} {x : Str} (kx : Kx X Z W) (imp : ∀ σ H Q, tO Z W m σ H Q → tLc wi (gName v) (tB Z W0 tc) (tP Z W0 me) [v] σ H Q) (hi : PI X tg iter wi) (ok : BlkOk X.N X.env.scope scope [(x, v)])
    (hg : BG X scope tg v) (ht : BT X Z scope ifs tc) (he : BE X Z scope elt me) (hs : ∀ x, foldedSetIterable iter X.env x = pure x := by intro _; rfl) (hz : Z.hot = false := by rfl) :
    PE X (.ListComp elt [⟨tg, iter, ifs, 0⟩] scope pos) (tO Z W m) := (pe_lc (kx.calm hz) kx.nd hi ok hg (fun s H C cl fp => ht s H C cl fp (kx.blk _ _ _ _ _)) (fun s H C cl fp => he s H C cl fp (kx.blk _ _ _ _ _)) hs).pimp imp
theorem s_lc {wi : TI} {m : Env → Res R} {x : Str} {i : Nat} {y : Str} (kx : Kx X Z W) (hy : X.N[i]? = some y) (hyl : X.env.scope.names.lookup y = some .local) (imp : ∀ σ H Q, tO Z W m σ H Q → tLc wi (gName v) (tB Z W0 tc) (tP Z W0 me) [v] σ H Q) (hi : PI X tg iter wi) (ok : BlkOk X.N X.env.scope scope [(x, v)])
    (hg : BG X scope tg v) (ht : BT X Z scope ifs tc) (he : BE X Z scope elt me) (hsw : swapsWith (.ListComp elt [⟨tg, iter, ifs, 0⟩] scope pos) (some (.Name y py)) spos.line X.env = pure true) (hs : ∀ x, foldedSetIterable iter X.env x = pure x := by intro _; rfl) (hz : Z.hot = false := by rfl) :
    PS X (.Assign [.Name y py] (.ListComp elt [⟨tg, iter, ifs, 0⟩] scope pos) spos) (tS Z W (sSet i (mOp m))) :=
  (ps_setLc (kx.calm hz) kx.nd hy hyl hsw hi ok hg (fun s H C cl fp => ht s H C cl fp (kx.blk _ _ _ _ _)) (fun s H C cl fp => he s H C cl fp (kx.blk _ _ _ _ _)) hs).pimp fun De σ H q => imp σ H _ (op_imp σ H _ (set_imp De σ H q))
theorem s_lcO {wi : TI} {m : Env → Res R} {x : Str} {i : Nat} {y : Str} (kx : Kx X Z W) (hy : X.N[i]? = some y) (hyl : X.env.scope.names.lookup y = some .local) (imp : ∀ σ H Q, tO Z W m σ H Q → tLc wi (gName v) (tB Z W0 tc) (tP Z W0 me) [v] σ H Q) (hi : PI X tg iter wi) (ok : BlkOk X.N X.env.scope scope [(x, v)])
    (hg : BG X scope tg v) (ht : BT X Z scope ifs tc) (he : BE X Z scope elt me) (hsw : swapsWith (.ListComp elt [⟨tg, iter, ifs, 0⟩] scope pos) (some (.Name y py)) spos.line X.env = pure true) (hs : ∀ x, foldedSetIterable iter X.env x = pure x := by intro _; rfl) (hz : Z.hot = false := by rfl) :
    PS X (.Assign [.Name y py] (.ListComp elt [⟨tg, iter, ifs, 0⟩] scope pos) spos) (tS Z W (sOwn i m)) :=
  (ps_setLc (kx.calm hz) kx.nd hy hyl hsw hi ok hg (fun s H C cl fp => ht s H C cl fp (kx.blk _ _ _ _ _)) (fun s H C cl fp => he s H C cl fp (kx.blk _ _ _ _ _)) hs).pimp fun De σ H q => imp σ H _ (own_imp De σ H q)
end

/-! ### a def -/
def outOf (e : Env) : Option O := match e[(0 : Nat)]? with
  | some (.mu o) => some o
  | _ => none
def runF (np n : Nat) (m : Env → Fl) (args : List S) : CallR := if args.length = np ∧ np ≤ n then (match m (args ++ List.replicate (n - np) .un) with
  | .nx e => .ok (.fz .non) (outOf e)
  | .rt (.bor _ _) _ => .stuck
  | .rt r e => .ok r (outOf e)
  | .rs x e => .rs x (outOf e)
  | _ => .stuck) else .stuck
theorem args_len {g : Ga} {om : Om} {H : Hp} : ∀ {i : Nat} {args : List S} {vs : List V}, ArgsOk g om H i args vs → args.length = vs.length
  | _, [], vs, h => by rw [show vs = [] from h]; rfl
  | i, s :: ss, vs, ⟨v, r, h1, _, h3⟩ => by rw [h1]; simp [args_len h3]
theorem args_get {g : Ga} {om : Om} {H : Hp} : ∀ {i j : Nat} {args : List S} {vs : List V} {s : S}, ArgsOk g om H i args vs → args[j]? = some s → ∃ v, vs[j]? = some v ∧ ArgOk g om H (i + j) v s
  | _, _, [], vs, s, h, e => by simp at e
  | i, 0, s :: ss, vs, s', ⟨v, r, h1, h2, h3⟩, e => by simp at e; subst e; exact ⟨v, by rw [h1]; rfl, h2⟩
  | i, j + 1, s :: ss, vs, s', ⟨v, r, h1, h2, h3⟩, e => by
    obtain ⟨w, w1, w2⟩ := args_get (j := j) h3 (by simpa using e)
    exact ⟨w, by rw [h1]; simpa using w1, by rw [show i + (j + 1) = i + 1 + j by omega]; exact w2⟩
theorem rel_start {hot : Bool} {g : Ga} {om : Om} {H : Hp} {args : List S} {vs : List V} {N : List Str} (tr : ∀ a l, om a = some l → ∃ o, H a = some o) (nt : ∀ a l, om a = some l → l.root ≠ .tmp) (h : ArgsOk g om H 0 args vs) (hn : vs.length ≤ N.length) :
    Rel ⟨g, om, H, vs.head?, hot⟩ om (L2.start N vs) H (args ++ List.replicate (N.length - vs.length) .un) := by
  refine ⟨tr, nt, Keep.refl _ _, by simp [L2.start, args_len h], fun i s hs => ?_, fun o ho => ?_⟩
  · by_cases hi : i < args.length
    · rw [List.getElem?_append_left hi] at hs
      obtain ⟨v, h1, h2⟩ := args_get h hs
      have h3 : (L2.start N vs)[i]? = some (some v) := by
        unfold L2.start
        rw [List.getElem?_append_left (by rw [List.length_map, ← args_len h]; exact hi), List.getElem?_map, h1]
        rfl
      rw [Nat.zero_add] at h2
      rw [h3]
      cases s with
      | un => trivial
      | pin w => rw [show v = w from h2]; rfl
      | fz d => exact ⟨v, rfl, h2⟩
      | rd o => obtain ⟨l, hl, ow⟩ := h2; exact ⟨v, l, rfl, hl, ow⟩
      | ow o => exact h2.elim
      | mu o =>
        obtain ⟨hz, ow⟩ := h2
        subst hz
        exact ⟨v, rfl, ow⟩
    · rw [List.getElem?_append_right (Nat.le_of_not_lt hi)] at hs
      have : s = .un := by
        have := List.mem_of_getElem? hs
        exact (List.mem_replicate.mp this).2
      subst this
      trivial
  · cases args with
    | nil =>
      exfalso
      rw [List.nil_append] at ho
      have := (List.mem_replicate.mp (List.mem_of_getElem? ho)).2
      cases this
    | cons s ss =>
      simp at ho
      subst ho
      obtain ⟨v, r, h1, _, _⟩ := h
      subst h1
      rfl
theorem outOk_of {Z : Zc} {om : Om} {H : Hp} {e : Env} {v0 : Option V} (h : MuOk Z om H e) (hv : Z.v0 = v0) : OutOk Z.g om H v0 (outOf e) := by
  unfold outOf
  split
  · rename_i o ho
    obtain ⟨v, h1, h2⟩ := h o ho
    exact ⟨v, by rw [← hv, h1], h2⟩
  · trivial
section
variable {P : Program} {w : World} {K : PySem.W.Frag} {mg : Str → Option Value} {base : Heap}
/-- THE RULE for a def: its body's mirror -/
theorem rf_ok {x qual : Str} {st : Stmt} {f : Addr} {fd : FuncData} {N ps : List Str} {k : Nat} {m : Env → Fl} (F : Fun K x qual st f fd) (S : FnScope N ps (defScope st)) (hn : ps.length ≤ N.length)
    (hb : ∀ (cdv : Value) (A : Around) (outer : List PySem.Env) (s : Shared) (H : Hp) (E : XK) (om0 : Om) (H0 : Hp) (v0 : Option V) (W : WX), Room k (A.deeper (envOfC qual (defScope st) s.heap.objs.size f cdv)) →
      Ks (cxOf (L2.CX P w) P w K mg base N qual (defScope st) f cdv A outer s H E) ⟨⟨K, mg⟩, om0, H0, v0, false⟩ W → PSs (cxOf (L2.CX P w) P w K mg base N qual (defScope st) f cdv A outer s H E) (defBody st) (tS ⟨⟨K, mg⟩, om0, H0, v0, false⟩ W m)) :
    FnOk P w K mg base (L2.CX P w) (k + 1) f fd ps (spF ⟨K, mg⟩ (runF ps.length N.length m)) := by
  refine F.okX S (fun vs H Q E h => ?_) (fun cdv A outer s H vs Q E hr h => ?_)
  · obtain ⟨om, args, _, _, h3, h4⟩ := h
    unfold runF at h4
    split at h4
    · rename_i hl
      rw [← args_len h3]
      exact hl.1
    · exact h4.elim
  · obtain ⟨om, args, h1, h2, h3, h4⟩ := h
    unfold runF at h4
    split at h4
    · rename_i hl
      have hlen := args_len h3
      have hps : vs.length = ps.length := by rw [← hlen]; exact hl.1
      refine ⟨tS ⟨⟨K, mg⟩, om, H, vs.head?, false⟩ (fun cls d _ H => E cls d H) m, hb cdv A outer s H E _ _ _ _ hr ?_, om, args ++ List.replicate (N.length - vs.length) .un, rel_start h1 h2 h3 (by rw [hps]; exact hn), ?_⟩
      · exact { gK := rfl, gm := rfl, calm := fun _ => rfl, hu := hr.units, esc := fun σ => passAt (takes_of rfl rfl rfl rfl) σ, nd := S.nd, tk := takes_of rfl rfl rfl rfl, pass := passes_of rfl }
      · rw [hps]
        cases hm : m (args ++ List.replicate (N.length - ps.length) .un) with
        | stuck => rw [hm] at h4; exact h4.elim
        | bk e => rw [hm] at h4; exact h4.elim
        | ct e => rw [hm] at h4; exact h4.elim
        | nx e =>
          rw [hm] at h4
          exact fun om' σ' H' k r => h4 .non om' H' r.kp r.tr (by unfold ROk Hd; rfl) (outOk_of (Z := ⟨⟨K, mg⟩, om, H, vs.head?, false⟩) (mu_of r (New.same (Same.refl _))) rfl)
        | rs x e =>
          rw [hm] at h4
          exact fun c d om' σ' H' k r ex => h4 c d om' H' r.kp r.tr ex (outOk_of (Z := ⟨⟨K, mg⟩, om, H, vs.head?, false⟩) (mu_of r (New.same (Same.refl _))) rfl)
        | rt r e =>
          rw [hm] at h4
          intro v om' H' k tr' ro mu
          cases r with
          | bor l o => exact h4.elim
          | fz d => exact h4 v om' H' k tr' ro (outOk_of (Z := ⟨⟨K, mg⟩, om, H, vs.head?, false⟩) mu rfl)
          | tmp o => exact h4 v om' H' k tr' ro (outOk_of (Z := ⟨⟨K, mg⟩, om, H, vs.head?, false⟩) mu rfl)
    · exact h4.elim
end
end RC

set_option Elab.async false
set_option linter.all false
set_option maxRecDepth 100000
set_option maxHeartbeats 2000000
/-! R8: isinstance of built-in types. -/
namespace RC
open PySem PySem.Spec PyProof.Rows L2
def P.ty? : P → Option String
  | .fz .non => some "NoneType"
  | .fz (.bl _) => some "bool"
  | .fz (.int _) => some "int"
  | .fz (.str _) => some "str"
  | .fz (.lst _) => some "list"
  | .fz (.tup _) => some "tuple"
  | .bor _ (.lst _) => some "list"
  | _ => none
theorem POk.ty {g : Ga} {om : Om} {H : Hp} {x : P} {v : V} {t : String} (h : POk g om H x v) (e : x.ty? = some t) : TyX g.K H v (.type t) := by
  refine .base ?_
  cases x with
  | fz d =>
    cases d <;> simp only [P.ty?, Option.some.injEq, reduceCtorEq] at e <;> subst e <;> simp only [POk, Hd] at h
    · rw [h]; exact .non
    · rw [h]; exact .bl _
    · rw [h]; exact .int _
    · rw [h]; exact .str _
    · obtain ⟨a, xs, h1, h2, _⟩ := h; rw [h1]; exact .tup (hide_same _ _ h2)
    · obtain ⟨a, xs, h1, h2, _⟩ := h; rw [h1]; exact .lst (hide_same _ _ h2)
  | bor l o =>
    cases o <;> simp only [P.ty?, Option.some.injEq, reduceCtorEq] at e
    subst e
    obtain ⟨_, _, _, a, xs, h1, _, h2, _⟩ := h
    rw [h1]
    exact .lst h2
def kIsi (T : String) (x : P) : Option Bool := match x.ty? with
  | some t => kitB t T
  | none => none
section
variable {X : Cx} {Z : Zc} {W : WX} {e : Expr} {pos p p3 : Pos} {ma : Env → Res P}
theorem r_isi {T : String} {N : Str} (kx : Kx X Z W) (he : PE X e (tP Z W ma)) (hm : X.mg "isinstance" = none) (hT : X.mg N = none) (hb : bootBuiltins N = some (.type T)) (hg : Gl X "isinstance" := by rfl) (hgT : Gl X N := by rfl) (hn : N ≠ "__name__" := by decide) (hd : (N == ("__debug__" : Str)) = false := by decide)
    (hs : starEach (e :: [.Name N p3]) X.env = (false, eval e X.env) :: starEach [.Name N p3] X.env := by rfl) (hs2 : starEach (.Name N p3 :: []) X.env = (false, eval (.Name N p3) X.env) :: starEach [] X.env := by rfl) (hpl : (backTo pos (starEach [.Name N p3] X.env)).any (·.1) = false := by rfl) :
    PE X (.Call (.Name "isinstance" p) (e :: [.Name N p3]) [] pos) (tP Z W (mBl (one1 (kIsi T) ma))) :=
  (pe_callB call_isi hg hm (by decide +kernel) (pa_cons he (pa_cons (pe_bltn (v := .ty T) hgT hT hb rfl hn hd) pa_nil hs2) hs) (by decide) (by decide) hs hpl).pimp fun σ H Q ⟨om, env, rl, q⟩ => by
    refine one (T := fun v H' => rIsi X.K [v, .ty T] H' Q) rl (q_fz q) fun x v H' e rl' p1 z hk qz => ?_
    unfold kIsi at hk
    split at hk
    · rename_i t ht
      have h := p1.ty ht
      rw [kx.gK] at h
      exact ⟨v, .ty T, .type t, .type T, z, rfl, .ty T, h, kit_ty hk, qz H' (Same.refl _) _ (by unfold Hd; rfl)⟩
    · cases hk
end
end RC

set_option Elab.async false
set_option linter.all false
set_option maxRecDepth 100000
set_option maxHeartbeats 2000000
/-! R9: owned lists given back, laid cold; calls whose answers are new throughout. -/
namespace RC
open PySem PySem.Spec PyProof.Rows L2
section
variable {X : Cx} {Z : Zc} {W : WX} {e a b : Expr} {es : List Expr} {pos p p2 : Pos} {ma mb : Env → Res P} {mr : Env → Res (List P)} {om : Om} {env : Env} {σ : L2.St} {H : Hp}
/-- return name, the name's list owned -/
def sRetO (i : Nat) : Env → Fl := fun env => match env[i]? with
  | some (.ow o) => .rt (.tmp o) env
  | _ => .stuck
def unslot (i : Nat) : Lab → Lab
  | .slot j => if j = i then .tmp else .slot j
  | l => l
theorem relab_slot (i : Nat) : ∀ l : Lab, l.root ≠ .slot i → l.re (unslot i) = l
  | .sub l s, h => by unfold Lab.re; rw [relab_slot i l h]
  | .amb, h => rfl
  | .slot j, h => by show (if j = i then Lab.tmp else .slot j) = .slot j; rw [if_neg (fun z => h (by rw [z]; rfl))]
  | .tmp, h => rfl
theorem unslot_root (i : Nat) : ∀ l : Lab, l.root = .slot i → (l.re (unslot i)).root = .tmp
  | .sub l s, h => unslot_root i l h
  | .amb, h => by cases h
  | .slot j, h => by
    have : j = i := by cases h; rfl
    show (if j = i then Lab.tmp else .slot j).root = .tmp
    rw [if_pos this]; rfl
  | .tmp, h => by cases h
theorem s_retO {i : Nat} {x : Str} {p3 : Pos} (he : PE X (.Name x p3) (tVar i)) : PS X (.Return (some (.Name x p3)) pos) (tS Z W (sRetO i)) := (ps_ret he).pimp fun D σ H ⟨om, env, rl, q⟩ => by
  unfold sRetO at q
  split at q
  · rename_i o hi
    obtain ⟨v, h1, h2⟩ := rl.sl i _ hi
    refine ⟨v, h1, ?_⟩
    have hn : ∀ a, om a = none ↔ (om a).map (fun l => l.re (unslot i)) = none := fun a => by cases om a <;> simp
    have hh := hide_none (H := H) hn
    refine q v (fun a => (om a).map fun l => l.re (unslot i)) H (rl.kp.trans ⟨by rw [hh]; exact Same.refl _, fun a l h hr => ⟨?_, rfl⟩, fun a l h hr => ?_⟩) (fun a l h => ?_) ?_ (fun o' ho => ?_)
    · show (om a).map _ = some l
      rw [h]
      simp only [Option.map_some, Option.some.injEq]
      exact relab_slot i l (by rw [hr]; exact fun z => by cases z)
    · cases w : om a with
      | none => have h : (om a).map _ = some l := h; rw [w] at h; cases h
      | some l' =>
        have h : (om a).map (fun l => l.re (unslot i)) = some l := h
        rw [w] at h
        simp only [Option.map_some, Option.some.injEq] at h
        by_cases z : l'.root = .slot i
        · exfalso
          have := unslot_root i l' z
          rw [h, hr] at this
          cases this
        · rw [relab_slot i l' z] at h
          rw [h]
    · cases w : om a with
      | none => have h : (om a).map _ = some l := h; rw [w] at h; cases h
      | some l' => exact rl.tr a l' w
    · have := h2.relab (f := unslot i) (om' := fun a => (om a).map fun l => l.re (unslot i)) hh fun a l h _ => by show (om a).map _ = _; rw [h]; rfl
      have e : (Lab.slot i).re (unslot i) = .tmp := by show (if i = i then Lab.tmp else .slot i) = .tmp; rw [if_pos rfl]
      rw [e] at this
      exact this
    · obtain ⟨w, w1, w2⟩ := rl.sl 0 _ ho
      have w3 := rl.mu o' ho
      rw [w3] at w1
      have hi0 : i ≠ 0 := fun z => by subst z; rw [hi] at ho; cases ho
      refine ⟨w, by simpa using w1, w2.mono (r := .slot 0) (by rw [hh]; exact Same.refl _) (fun a l h hr => ⟨?_, rfl⟩) rfl⟩
      show (om a).map _ = some l
      rw [h]
      simp only [Option.map_some, Option.some.injEq]
      exact relab_slot i l (by rw [hr]; exact fun z => by cases z; exact hi0 rfl)
  · exact q.elim
/-- an owned list is laid cold from here on -/
def sCold (i : Nat) (m : Env → Fl) : Env → Fl := fun env => match env[i]? with
  | some (.ow o) => m (env.set i (.fz o.cold))
  | _ => .stuck
theorem ss_cold (i : Nat) {body : List Stmt} {m : Env → Fl} (h : PSs X body (tS Z W m)) : PSs X body (tS Z W (sCold i m)) := h.pimp fun D σ H ⟨om, env, rl, q⟩ => by
  unfold sCold at q
  split at q
  · rename_i o hi
    classical
    have hlt : i < env.length := (List.getElem?_eq_some_iff.mp hi).1
    obtain ⟨v, h1, h2⟩ := rl.sl i _ hi
    have nn : ∀ a l, (fun a => match om a with
      | some l => if l.root = .slot i then none else some l
      | none => none) a = some l → om a = some l ∧ l.root ≠ .slot i := fun a l z => by
      cases w : om a with
      | none => simp [w] at z
      | some l' =>
        simp only [w] at z
        split at z
        · cases z
        · rename_i hr
          cases z
          exact ⟨rfl, hr⟩
    have keepL : ∀ a l, om a = some l → l.root ≠ .slot i → (fun a => match om a with
      | some l => if l.root = .slot i then none else some l
      | none => none) a = some l := fun a l z hr => by simp only [z, if_neg hr]
    have st : Same (hide om H) (hide (fun a => match om a with
      | some l => if l.root = .slot i then none else some l
      | none => none) H) := fun a u z => by
      obtain ⟨z1, z2⟩ := hide_iff.mp z
      exact hide_iff.mpr ⟨by simp only [z1], z2⟩
    have k : Keep om H (fun a => match om a with
      | some l => if l.root = .slot i then none else some l
      | none => none) H := ⟨st, fun a l h hr => ⟨keepL a l h (by rw [hr]; exact fun z => by cases z), rfl⟩, fun a l h _ => (nn a l h).1⟩
    refine ⟨_, env.set i (.fz o.cold), ⟨fun a l h => rl.tr a l (nn a l h).1, fun a l h => rl.nt a l (nn a l h).1, rl.kp.trans k, by simp [rl.ln], fun j s hj => ?_, fun o' ho => ?_⟩, FLands.weak k q⟩
    · by_cases z : j = i
      · subst z
        rw [List.getElem?_set_self hlt] at hj
        cases hj
        exact ⟨v, h1, h2.cold (r := .slot j) st (fun a l h hr => ⟨by simp only [h, if_pos hr], rfl⟩) rfl⟩
      · rw [List.getElem?_set_ne (fun w => z w.symm)] at hj
        refine (rl.sl j s hj).mono st fun r hr a l h hl => ⟨keepL a l h ?_, rfl⟩
        rw [hl]
        rcases hr with rfl | rfl
        · exact fun z => by cases z
        · exact fun w => by cases w; exact z rfl
    · by_cases z : 0 = i
      · subst z
        rw [List.getElem?_set_self hlt] at ho
        cases ho
      · rw [List.getElem?_set_ne (fun w => z w.symm)] at ho
        exact rl.mu o' ho
  · exact q.elim

/-! ### answers that are new throughout -/
mutual
/-- data without lists, dicts, objects -/
def D.flat : D → Bool
  | .non => true
  | .bl _ => true
  | .int _ => true
  | .str _ => true
  | .tup ds => dsFlat ds
  | _ => false
def dsFlat : List D → Bool
  | [] => true
  | d :: ds => d.flat && dsFlat ds
end
def isTup : HO → Bool
  | .tup _ => true
  | _ => false
/-- the tuples of a heap alone -/
def tupsOf (H : Hp) : Hp := fun a => match H a with
  | some (.tup xs) => some (.tup xs)
  | _ => none
theorem tupsOf_tup {H : Hp} {a : Addr} {xs : List V} (h : H a = some (.tup xs)) : tupsOf H a = some (.tup xs) := by unfold tupsOf; rw [h]
mutual
theorem Hd.tups {g : Ga} {H : Hp} : ∀ {d : D} {v : V}, d.flat = true → Hd g H d v → Hd g (tupsOf H) d v
  | .non, v, _, h => by unfold Hd at h ⊢; exact h
  | .bl b, v, _, h => by unfold Hd at h ⊢; exact h
  | .int i, v, _, h => by unfold Hd at h ⊢; exact h
  | .str x, v, _, h => by unfold Hd at h ⊢; exact h
  | .tup ds, v, f, h => by
    unfold Hd at h ⊢
    obtain ⟨a, xs, h1, h2, h3⟩ := h
    exact ⟨a, xs, h1, tupsOf_tup h2, Hds.tups (by simpa [D.flat] using f) h3⟩
  | .lst ds, v, f, h => by simp [D.flat] at f
  | .dct ds, v, f, h => by simp [D.flat] at f
  | .obj n ds, v, f, h => by simp [D.flat] at f
  | .scr n, v, f, h => by simp [D.flat] at f
theorem Hds.tups {g : Ga} {H : Hp} : ∀ {ds : List D} {vs : List V}, dsFlat ds = true → Hds g H ds vs → Hds g (tupsOf H) ds vs
  | [], vs, _, h => by unfold Hds at h ⊢; exact h
  | d :: ds, vs, f, h => by
    unfold Hds at h
    obtain ⟨v, r, rfl, h1, h2⟩ := h
    simp only [dsFlat, Bool.and_eq_true] at f
    exact .cons (Hd.tups f.1 h1) (Hds.tups f.2 h2)
end
/-- what is in H' and was no list, dict, object of H -/
def newOf (H H' : Hp) : Hp := fun a => match H a with
  | none => H' a
  | some (.tup _) => H' a
  | some _ => none
def tN (Z : Zc) (W : WX) (m : Env → Res D) : TE := fun σ H Q => ∃ om env, Rel Z om σ H env ∧ Lands (m env) (fun d => ∀ v H', Same H H' → Hd Z.g (hide om (newOf H H')) d v → Q v H') (fun x => ∀ c d H', Same H H' → ExOk Z.g om H' x c d → W c d σ H')
def mRunN (r : CallR) : Res D := match r with
  | .ok (.fz d) _ => .ok d
  | .ok (.tmp o) _ => .ok o.cold
  | .rs x _ => .rs x
  | _ => .stuck
def flats : List P → Option (List D)
  | [] => some []
  | .fz d :: ps => if d.flat = true then (flats ps).map fun r => d :: r else none
  | _ :: _ => none
def mCallN (mf : List S → CallR) (mr : Env → Res (List P)) : Env → Res D := fun env => (mr env).bind fun ps => match flats ps with
  | some ds => mRunN (mf (ds.map S.fz))
  | none => .stuck
theorem flats_args {g : Ga} {om om2 : Om} {H : Hp} (sub : Same (tupsOf (hide om H)) (hide om2 H)) : ∀ {i : Nat} {ps : List P} {ds : List D} {vs : List V}, PsOk g om H ps vs → flats ps = some ds → ArgsOk g om2 H i (ds.map S.fz) vs
  | i, [], ds, vs, h, e => by cases e; exact h
  | i, .fz d :: ps, ds, vs, ⟨v, r, h1, h2, h3⟩, e => by
    unfold flats at e
    split at e
    · rename_i hf
      cases hp : flats ps with
      | none => rw [hp] at e; cases e
      | some ds' =>
        rw [hp] at e
        cases e
        exact ⟨v, r, h1, Hd.mono sub (Hd.tups hf h2), flats_args sub h3 hp⟩
    · cases e
  | i, .bor l o :: ps, ds, vs, h, e => by cases e
theorem n_call (kx : Kx X Z W) {mf : List S → CallR} {x : Str} {k : Nat} (F : Cl X.prog X.w Z.g X.base k x mf) (hr : Room k X.A) (ha : PA X (e :: es) (tA Z W mr)) (hg : Gl X x := by rfl) (hdb : (x == ("__debug__" : Str)) = false := by decide)
    (he : starEach (e :: es) X.env = (false, eval e X.env) :: starEach es X.env := by rfl) (hpl : (backTo pos (starEach es X.env)).any (·.1) = false := by rfl) : PE X (.Call (.Name x p) (e :: es) [] pos) (tN Z W (mCallN mf mr)) := by
  obtain ⟨f, fd, ps, F1, F2, F3, F4⟩ := F
  rw [kx.gK, kx.gm] at F1
  rw [kx.gm] at F2
  rw [kx.gK] at F3 F4
  refine (pe_callS F1 hr hg F2 F3 F4 kx.esc ha hdb he hpl).pimp fun σ H Q ⟨om, env, rl, q⟩ => ?_
  unfold mCallN at q
  refine ⟨om, env, rl, ?_⟩
  cases hm : mr env with
  | stuck => rw [hm] at q; exact q
  | rs x => rw [hm] at q; exact q
  | ok y =>
    rw [hm] at q
    simp only [Res.bind] at q
    intro vs H1 e1 po
    cases hf : flats y with
    | none => rw [hf] at q; exact q.elim
    | some ds =>
      rw [hf] at q
      simp only at q
      have rl1 := rl.grow e1
      -- all that is no visible tuple is hidden
      have f1 : ∀ a, om a = none → ∀ xs, H1 a = some (.tup xs) → (fun a => match H1 a with
        | none => none
        | some (.tup _) => (om a).map fun _ => Lab.amb
        | some _ => some Lab.amb) a = none := fun a h xs hx => by simp [hx, h]
      have hid : ∀ a l, (fun a => match H1 a with
        | none => none
        | some (.tup _) => (om a).map fun _ => Lab.amb
        | some _ => some Lab.amb) a = some l → l = .amb ∧ ∃ o, H1 a = some o := fun a l h => by
        cases hx : H1 a with
        | none => simp [hx] at h
        | some o =>
          refine ⟨?_, o, rfl⟩
          cases o <;> simp [hx] at h <;> first | exact h.symm | exact h.2.symm | (obtain ⟨_, h⟩ := h; exact h.symm) | exact h
      have vis : ∀ a o, H1 a = some o → om a ≠ none → (fun a => match H1 a with
        | none => none
        | some (.tup _) => (om a).map fun _ => Lab.amb
        | some _ => some Lab.amb) a = some .amb := fun a o hx hn => by
        cases w : om a with
        | none => exact absurd w hn
        | some l => cases o <;> simp [hx, w]
      have nonT : ∀ a o, H1 a = some o → isTup o = false → (fun a => match H1 a with
        | none => none
        | some (.tup _) => (om a).map fun _ => Lab.amb
        | some _ => some Lab.amb) a = some .amb := fun a o hx ht => by
        cases o <;> simp [hx, isTup] at ht ⊢
      refine ⟨_, ds.map S.fz, fun a l h => (hid a l h).2, (fun a l h => by rw [(hid a l h).1]; exact fun z => nomatch z), flats_args (om2 := fun a => match H1 a with
        | none => none
        | some (.tup _) => (om a).map fun _ => Lab.amb
        | some _ => some Lab.amb) (fun a u z => ?_) po hf, ?_⟩
      · unfold tupsOf at z
        cases w : hide om H1 a with
        | none => rw [w] at z; cases z
        | some o =>
          rw [w] at z
          obtain ⟨w1, w2⟩ := hide_iff.mp w
          cases o <;> cases z
          exact hide_iff.mpr ⟨f1 a w1 _ w2, w2⟩
      · have same : ∀ om' H', Keep (fun a => match H1 a with
          | none => none
          | some (.tup _) => (om a).map fun _ => Lab.amb
          | some _ => some Lab.amb) H1 om' H' → Same H1 H' := fun om' H' k a o hx => by
          cases w : (fun a => match H1 a with
            | none => none
            | some (.tup _) => (om a).map fun _ => Lab.amb
            | some _ => some Lab.amb) a with
          | none => exact hide_same _ _ (k.st a o (hide_iff.mpr ⟨w, hx⟩))
          | some l => rw [(k.am a l w (by rw [(hid a l w).1]; rfl)).2]; exact hx
        have sub : ∀ om' H', Keep (fun a => match H1 a with
          | none => none
          | some (.tup _) => (om a).map fun _ => Lab.amb
          | some _ => some Lab.amb) H1 om' H' → ∀ a u, om' a = none → H' a = some u → om a = none ∧ (∀ o, H1 a = some o → isTup o = true) := fun om' H' k a u z1 z2 => by
          refine ⟨?_, fun o ho => ?_⟩
          · cases w : om a with
            | none => rfl
            | some l =>
              obtain ⟨o, ho⟩ := rl1.tr a l w
              rw [(k.am a _ (vis a o ho (by rw [w]; exact fun z => by cases z)) rfl).1] at z1
              cases z1
          · cases ht : isTup o with
            | true => rfl
            | false =>
              rw [(k.am a _ (nonT a o ho ht) rfl).1] at z1
              cases z1
        cases hm2 : mf (ds.map S.fz) with
        | stuck => rw [hm2] at q; exact q
        | rs x out =>
          rw [hm2] at q
          intro c d om' H' k tr' ex _
          refine q c d H' (e1.trans (same om' H' k)) ?_
          obtain ⟨C, x1, x2, x3⟩ := ex
          refine ⟨C, x1, x2, ?_⟩
          cases hf : x.fs with
          | none => rw [hf] at x3; exact x3
          | some fs =>
            rw [hf] at x3
            obtain ⟨dd, ws, y1, y2, y3⟩ := x3
            refine ⟨dd, ws, y1, y2, Hfs.mono (fun a u w => ?_) y3⟩
            obtain ⟨w1, w2⟩ := hide_iff.mp w
            exact hide_iff.mpr ⟨(sub om' H' k a u w1 w2).1, w2⟩
        | ok r out =>
          rw [hm2] at q
          intro v om' H' k tr' ro _
          have toN : Same (hide om' H') (hide om (newOf H H')) := fun a u w => by
            obtain ⟨w1, w2⟩ := hide_iff.mp w
            obtain ⟨s1, s2⟩ := sub om' H' k a u w1 w2
            refine hide_iff.mpr ⟨s1, ?_⟩
            unfold newOf
            cases hx : H a with
            | none => exact w2
            | some o =>
              have := s2 o (e1 a o hx)
              cases o <;> simp [isTup] at this
              exact w2
          cases r with
          | bor l o => exact q.elim
          | fz d => exact q v H' (e1.trans (same om' H' k)) (Hd.mono toN ro)
          | tmp o =>
            refine q v H' (e1.trans (same om' H' k)) ?_
            -- what is temporarily owned is new
            refine Own.cold (r := .tmp) toN (fun a l h hr => ?_) rfl ro
            have hnew : H1 a = none := by
              cases hx : H1 a with
              | none => rfl
              | some u =>
                exfalso
                cases w : (fun a => match H1 a with
                  | none => none
                  | some (.tup _) => (om a).map fun _ => Lab.amb
                  | some _ => some Lab.amb) a with
                | none => rw [(hide_iff.mp (k.st a u (hide_iff.mpr ⟨w, hx⟩))).1] at h; cases h
                | some l' =>
                  have z := (hid a l' w).1
                  subst z
                  rw [(k.am a _ w rfl).1] at h
                  cases h
                  cases hr
            have h0 : H a = none := e1.free hnew
            refine ⟨?_, by unfold newOf; rw [h0]⟩
            cases w : om a with
            | none => rfl
            | some l' => obtain ⟨u, z⟩ := rl.tr a l' w; rw [h0] at z; cases z
def kIxN (d : D) (y : P) : Option D := match d, y.int? with
  | .lst ds, some i => L2.atI ds i
  | _, _ => none
def mIxN (mn : Env → Res D) (mb : Env → Res P) : Env → Res D := fun env => (mn env).bind fun x => (mb env).bind fun y => .of (kIxN x y)
theorem n_ix {mn : Env → Res D} (ha : PE X a (tN Z W mn)) (hb : PE X b (tP Z W mb)) (hs : PlainIx b := by exact fun _ _ => rfl) : PE X (.Subscript a b pos) (tN Z W (mIxN mn mb)) :=
  (pe_ix ix_list ha hb hs).pimp fun σ H Q ⟨om, env, rl, q⟩ => by
    unfold mIxN at q
    refine ⟨om, env, rl, ?_⟩
    cases hma : mn env with
    | stuck => rw [hma] at q; exact q
    | rs x => rw [hma] at q; exact q
    | ok x =>
      rw [hma] at q
      simp only [Res.bind] at q
      intro v H1 e1 hd
      refine ⟨om, env, rl.grow e1, ?_⟩
      cases hmb : mb env with
      | stuck => rw [hmb] at q; exact q
      | rs x => rw [hmb] at q; exact fun c d H' e2 => q c d H' (e1.trans e2)
      | ok y =>
        rw [hmb] at q
        simp only [Res.bind] at q
        intro u H2 e2 pu
        cases hk : kIxN x y with
        | none => rw [hk] at q; exact q.elim
        | some z =>
          rw [hk] at q
          unfold kIxN at hk
          split at hk
          · rename_i ds i hi
            simp only [Hd] at hd
            obtain ⟨p, xs, h1, h2, h3⟩ := hd
            obtain ⟨w, h4, h5⟩ := h3.atI hk
            have n12 : Same (hide om (newOf H H1)) (hide om (newOf H H2)) := fun a o w => by
              obtain ⟨w1, w2⟩ := hide_iff.mp w
              refine hide_iff.mpr ⟨w1, ?_⟩
              unfold newOf at w2 ⊢
              cases hx : H a with
              | none => rw [hx] at w2; exact e2 _ _ w2
              | some o' => rw [hx] at w2; cases o' <;> first | exact e2 _ _ w2 | cases w2
            have hp : H1 p = some (.lst xs) := by
              obtain ⟨_, w2⟩ := hide_iff.mp h2
              unfold newOf at w2
              cases hx : H p with
              | none => rw [hx] at w2; exact w2
              | some o' => rw [hx] at w2; cases o' <;> first | exact w2 | cases w2
            exact ⟨p, xs, i, w, h1, pu.int hi, SqL.of (e2 _ _ hp), h4, q w H2 (e1.trans e2) (h5.mono n12)⟩
          · cases hk
/-- a new list of scalars is one's own -/
def scal (d : D) : Bool := match d with
  | .non => true
  | .bl _ => true
  | .int _ => true
  | .str _ => true
  | _ => false
theorem Hds.scal {g : Ga} {H H' : Hp} : ∀ {ds : List D} {vs : List V}, ds.all RC.scal = true → Hds g H ds vs → Hds g H' ds vs
  | [], vs, _, h => by unfold Hds at h ⊢; exact h
  | d :: ds, vs, f, h => by
    unfold Hds at h
    obtain ⟨v, r, rfl, h1, h2⟩ := h
    simp only [List.all_cons, Bool.and_eq_true] at f
    refine .cons ?_ (Hds.scal f.2 h2)
    cases d <;> simp [RC.scal] at f <;> (unfold Hd at h1 ⊢; exact h1)
def mOwnN (mn : Env → Res D) : Env → Res R := fun env => (mn env).bind fun d => match d with
  | .lst ds => if ds.all scal = true then .ok (.tmp (.lst ds)) else .stuck
  | _ => .stuck
theorem n_own {mn : Env → Res D} (h : PE X e (tN Z W mn)) : PE X e (tO Z W (mOwnN mn)) := h.pimp fun σ H Q ⟨om, env, rl, q⟩ => by
  unfold mOwnN at q
  refine ⟨om, env, rl, ?_⟩
  cases hma : mn env with
  | stuck => rw [hma] at q; exact q
  | rs x => rw [hma] at q; exact q
  | ok d =>
    rw [hma] at q
    simp only [Res.bind] at q
    intro v H' e hd
    cases d <;> try exact q.elim
    rename_i ds
    simp only at q
    split at q
    · rename_i hs
      simp only [Hd] at hd
      obtain ⟨p, xs, h1, h2, h3⟩ := hd
      obtain ⟨w1, w2⟩ := hide_iff.mp h2
      have hp : H' p = some (.lst xs) ∧ H p = none := by
        unfold newOf at w2
        cases hx : H p with
        | none => rw [hx] at w2; exact ⟨w2, rfl⟩
        | some o' =>
          rw [hx] at w2
          cases o' <;> first
            | cases w2
            | (have := e _ _ hx; have w3 : H' p = some (.lst xs) := w2; rw [w3] at this; cases this)
      subst h1
      refine q (.ref p) (lab om p .tmp) H' ⟨e, fun a l h => ?_, fun a l h => ?_⟩ ⟨p, xs, rfl, lab_same, hp.1, h3.scal hs⟩
      · rw [lab_ne (fun z => by subst z; obtain ⟨u, y⟩ := rl.tr _ l h; rw [hp.2] at y; cases y)]; exact h
      · by_cases z : a = p
        · subst z; rw [lab_same] at h; cases h; exact .inr ⟨hp.2, rfl, _, hp.1⟩
        · rw [lab_ne z] at h; exact .inl h
    · exact q.elim
end
end RC

set_option Elab.async false
set_option linter.all false
set_option maxRecDepth 100000
set_option maxHeartbeats 2000000
/-! R10: fields of an owned object stored. -/
namespace RC
open PySem PySem.Spec PyProof.Rows L2
def putFd (f : Str) (o : F) : List (Str × F) → List (Str × F)
  | [] => [(f, o)]
  | (g, x) :: r => if g = f then (g, o) :: r else (g, x) :: putFd f o r
section
variable {g : Ga} {om om' : Om} {H H' : Hp} {l : Lab}
theorem OwnF.monoL (e : Same (hide om H) (hide om' H')) (k : ∀ p, om p = some l → om' p = some l ∧ H' p = H p) : ∀ {o : F} {v : V}, OwnF g om H l o v → OwnF g om' H' l o v
  | .fz d, v, h => Hd.mono e h
  | .lst ds, v, ⟨p, xs, h1, h2, h3, h4⟩ => ⟨p, xs, h1, (k _ h2).1, by rw [(k _ h2).2]; exact h3, h4.mono e⟩
  | .dct ds, v, ⟨p, xs, h1, h2, h3, h4⟩ => ⟨p, xs, h1, (k _ h2).1, by rw [(k _ h2).2]; exact h3, h4.mono e⟩
theorem OwnFs.monoS (e : Same (hide om H) (hide om' H')) (k : ∀ p f, om p = some (.sub l f) → om' p = some (.sub l f) ∧ H' p = H p) : ∀ {fs : List (Str × F)} {ws : List (Str × V)}, OwnFs g om H l fs ws → OwnFs g om' H' l fs ws
  | [], ws, h => h
  | (f, o) :: fs, ws, ⟨v, vs, h1, h2, h3⟩ => ⟨v, vs, h1, OwnF.monoL e (fun p => k p f) h2, OwnFs.monoS e k h3⟩
theorem OwnFs.put {f : Str} {o : F} {v : V} (hv : OwnF g om H (.sub l f) o v) : ∀ {fs : List (Str × F)} {ws : List (Str × V)}, OwnFs g om H l fs ws → OwnFs g om H l (putFd f o fs) (putF f v ws)
  | [], ws, h => by
    rw [show ws = [] from h]
    exact ⟨v, [], rfl, hv, rfl⟩
  | (k, x) :: fs, ws, ⟨u, vs, h1, h2, h3⟩ => by
    subst h1
    unfold putFd putF
    by_cases hk : k = f
    · subst hk
      rw [if_pos rfl, if_pos rfl]
      exact ⟨v, vs, rfl, hv, h3⟩
    · rw [if_neg hk, if_neg hk]
      exact ⟨u, _, rfl, h2, OwnFs.put hv h3⟩
theorem OwnFs.len : ∀ {fs : List (Str × F)} {ws : List (Str × V)}, OwnFs g om H l fs ws → ws.length = fs.length
  | [], ws, h => by rw [show ws = [] from h]; rfl
  | (k, x) :: fs, ws, ⟨u, vs, h1, h2, h3⟩ => by subst h1; simp [OwnFs.len h3]
end
section
variable {X : Cx} {Z : Zc} {W : WX} {e : Expr} {pos p p' : Pos} {ma : Env → Res P} {mo : Env → Res R} {om : Om} {env : Env} {σ : L2.St} {H : Hp}
/-- the object of slot i changed to another -/
theorem Rel.objMut (rl : Rel Z om σ H env) {i : Nat} {o o' : O} {q : Addr} {u : HO} (h : env[i]? = some (.mu o)) (hs : σ[i]? = some (some (.ref q))) (hq : om q = some (.slot i)) (hd : Own Z.g om (upd H q u) (.slot i) o' (.ref q)) :
    Rel Z om σ (upd H q u) (env.set i (.mu o')) ∧ Keep om H om (upd H q u) := by
  have hl : i < env.length := (List.getElem?_eq_some_iff.mp h).1
  have k : Keep om H om (upd H q u) := keep_mut hq (fun z => by cases z)
  refine ⟨⟨fun a l h => ?_, rl.nt, rl.kp.trans k, by simp [rl.ln], fun j s hj => ?_, fun o ho => ?_⟩, k⟩
  · by_cases z : a = q
    · subst z; exact ⟨_, upd_same⟩
    · rw [upd_ne z]; exact rl.tr a l h
  · by_cases z : j = i
    · subst z
      rw [List.getElem?_set_self hl] at hj
      cases hj
      exact ⟨_, hs, hd⟩
    · rw [List.getElem?_set_ne (fun w => z w.symm)] at hj
      refine (rl.sl j s hj).mono k.st fun r hr a l h' hl' => ⟨h', ?_⟩
      rw [upd_ne]
      intro w
      subst w
      rw [hq] at h'
      cases h'
      rcases hr with hr | hr
      · rw [hr] at hl'; cases hl'
      · rw [hr] at hl'; cases hl'; exact z rfl
  · by_cases z : i = 0
    · subst z
      exact rl.mu _ h
    · rw [List.getElem?_set_ne z] at ho
      exact rl.mu o ho
def sAtt (n f : Str) (i : Nat) (ma : Env → Res P) : Env → Fl := fun env => match env[i]? with
  | some (.mu (.obj n' fs)) => if n' = n ∧ fs.length < 1000 then (match ma env with
    | .ok (.fz d) => .nx (env.set i (.mu (.obj n (putFd f (.fz d) fs))))
    | .rs x => .rs x env
    | _ => .stuck) else .stuck
  | _ => .stuck
theorem s_att {n f x : Str} {i : Nat} {C : Addr} (kx : Kx X Z W) (hC : Z.g.mg n = some (.ref C)) (c : Cls Z.g.K C) (na : NoAttr Z.g.K C f) (hx : PE X (.Name x p) (tVar i)) (he : PE X e (tP Z W ma))
    (hs : swapsWith e (some (.Attribute (.Name x p) f p')) pos.line X.env = pure false := by rfl) : PS X (.Assign [.Attribute (.Name x p) f p'] e pos) (tS Z W (sAtt n f i ma)) := (ps_fld hx he hs).pimp fun D σ H ⟨om, env, rl, q⟩ => by
  unfold sAtt at q
  rw [kx.gK] at c na
  cases hi : env[i]? with
  | none => rw [hi] at q; exact q.elim
  | some s =>
    rw [hi] at q
    cases s with
    | un => exact q.elim
    | pin d => exact q.elim
    | fz d => exact q.elim
    | rd d => exact q.elim
    | ow d => exact q.elim
    | mu o =>
      cases o with
      | lst ds => exact q.elim
      | dct ds => exact q.elim
      | obj n' fs =>
        simp only at q
        split at q
        · rename_i hc
          obtain ⟨hn, hl⟩ := hc
          subst hn
          refine ⟨om, env, rl, ?_⟩
          cases ha : ma env with
          | stuck => rw [ha] at q; exact q
          | rs x => rw [ha] at q; exact fun c d H' e ex => q c d om σ H' (keep_grow rl.tr e) (rl.grow e) ex
          | ok pp =>
            rw [ha] at q
            intro y H1 e1 po
            cases pp with
            | bor l o => exact q.elim
            | fz d =>
              have rl1 := rl.grow e1
              obtain ⟨v, h1, a, C', dx, ws, h2, h3, h4, h5, h6⟩ := rl1.sl i _ hi
              subst h2
              rw [hC] at h4
              cases h4
              refine ⟨.ref a, h1, a, C, dx, ws, rfl, h5, c, na, by rw [h6.len]; exact hl, ?_⟩
              have hk : hide om (upd H1 a (.ins C dx (putF f y ws))) = hide om H1 := hide_mut h3
              have h7 : OwnFs Z.g om (upd H1 a (.ins C dx (putF f y ws))) (.slot i) fs ws := h6.monoS (by rw [hk]; exact Same.refl _) fun p g hp => ⟨hp, by
                rw [upd_ne]
                intro w; subst w
                rw [h3] at hp; cases hp⟩
              have h8 : OwnF Z.g om (upd H1 a (.ins C dx (putF f y ws))) (.sub (.slot i) f) (.fz d) y := by
                show Hd Z.g (hide om _) d y
                rw [hk]; exact po
              obtain ⟨r1, k1⟩ := rl1.objMut (o' := .obj n' (putFd f (.fz d) fs)) hi h1 h3 (u := .ins C dx (putF f y ws)) ⟨a, C, dx, _, rfl, h3, hC, upd_same, h7.put h8⟩
              exact q om σ _ ((keep_grow rl.tr e1).trans k1) r1
        · exact q.elim
end
end RC

set_option Elab.async false
set_option linter.all false
set_option maxRecDepth 100000
set_option maxHeartbeats 2000000
/-! R11: a caught exception handed to a def that looks at it; try. -/
namespace RC
open PySem PySem.Spec PyProof.Rows L2
/-- what a def promises that is handed the caught exception (at p.1) -/
structure FnE (P : Program) (w : World) (K : PySem.W.Frag) (mg : Str → Option Value) (base : Heap) (k : Nat) (f : Addr) (fd : FuncData) (ps : List Str) (sp : Addr × Obj → Sp) : Prop where
  wide : ∀ p vs H Q E, sp p vs H Q E → vs.length = ps.length
  goes : ∀ (A : Around) (out : List PySem.Env) (s : Shared) (H : Hp) (args : Args) (us : List Value) (vs : List V) (Q : VK) (E : XK) (p : Addr × Obj), L2H.RoomH k A → L2H.PinOk out H s p → Env0 P w K mg base A out s H →
    BindsTo s fd args (ps.zip us) → Vals vs us → sp p vs H Q E → codeAny (model P w) A (.call (.ref f) args) (CR (L2.CX P w) out P w H s Q E) s
theorem FnE.mono {P : Program} {w : World} {K : PySem.W.Frag} {mg : Str → Option Value} {base : Heap} {j k : Nat} {f : Addr} {fd : FuncData} {ps : List Str} {sp : Addr × Obj → Sp} (F : FnE P w K mg base j f fd ps sp) (h : j ≤ k) : FnE P w K mg base k f fd ps sp :=
  ⟨F.wide, fun A out s H args us vs Q E p r => F.goes A out s H args us vs Q E p (r.mono h)⟩
theorem fnE_of {P : Program} {w : World} {K : PySem.W.Frag} {mg : Str → Option Value} {base : Heap} {k : Nat} {f : Addr} {nm qual : Str} {pars : Arguments} {body : List Stmt} {sc : Scope} {v1 v2 v3 v4 cdv v5 v6 : Value} {o1 o2 : Option Addr} {osl : Array (Option Value)} {N ps : List Str} {sp : Addr × Obj → Sp}
    (lk : K.lookup f = some ⟨v6, o2, .func (PySem.W.fnOf nm qual pars body sc v1 v2 v3 v4 o1 cdv v5), osl⟩) (hcd : PySem.W.codeIn K cdv qual = true) (S : FnScope N ps sc) (wide : ∀ p vs H Q E, sp p vs H Q E → vs.length = ps.length)
    (hb : ∀ (A : Around) (out : List PySem.Env) (s : Shared) (H : Hp) (vs : List V) (Q : VK) (E : XK) (p : Addr × Obj), L2H.RoomH k (A.deeper (envOfC qual sc s.heap.objs.size f cdv)) → sp p vs H Q E →
      ∃ t, PSs (L2H.cxH (L2.CX P w) P w K mg base N qual sc f cdv A out s H E p) body t ∧ t { nx := fun _ H' => Q .non H', rt := Q } (L2.start N vs) H) : FnE P w K mg base (k + 1) f (PySem.W.fnOf nm qual pars body sc v1 v2 v3 v4 o1 cdv v5) ps sp where
  wide := wide
  goes := by
    intro A out s H args us vs Q E p room pin e0 bt r hsp
    have hl := wide _ _ _ _ _ hsp
    have kin : K.In s.heap := e0.mod.kin.keeps fun b o e => (e0.bs b o e).1
    have lim : s.heap.NoLimit := e0.mod.nolimit.keeps fun b o e => (e0.bs b o e).1
    have kind : ∀ y ∈ ps.zip us, sc.names.lookup y.1 = some .local ∨ (sc.names.lookup y.1 = some .cell ∧ ((cellsFrom (s.heap.objs.size + 1) sc.names []).lookup y.1).isSome = true) := by
      rintro ⟨n, v⟩ hy
      exact (S.par n (List.of_mem_zip hy).1).imp id fun q => ⟨q, PySem.W.cellsFrom_some _ _ _ (.inl q)⟩
    refine codeAny_call_function room.depth (kin _ _ lk) rfl S.co S.gen rfl (PySem.W.codeRec_of kin hcd) (bt _ _ _ _ ?_)
    refine wpAny_newFunctionEnv_cells S.kind kind ?_
    intro env he s1 x
    subst he
    refine ⟨lim.keeps x.toInCall.keep, codeAny_func ?_⟩
    obtain ⟨t, ht, hq⟩ := hb A out s H vs Q E p (room.deeper _) hsp
    have I := L2H.inv_startH (CX := L2.CX P w) (E := E) S pin e0 hl r x
    refine wpAny_mono (ht.run [] s1 (L2.start N vs) H _ I hq) ?_ fun e s' z => z
    intro fl s' z
    cases fl with
    | ret u => obtain ⟨v, σ', H', J, rv, q⟩ := z; exact ⟨v, H', J.os, J.bare, J.base, J.hok, rv, q⟩
    | next => obtain ⟨σ', H', J, q⟩ := z; exact ⟨V.non, H', J.os, J.bare, J.base, J.hok, rfl, q⟩
    | brk => obtain ⟨_, _, _, q⟩ := z; exact q.elim
    | cont => obtain ⟨_, _, _, q⟩ := z; exact q.elim
section
variable {X : Cx} {k : Nat} {f : Addr} {fd : FuncData} {ps : List Str} {sp : Addr × Obj → Sp} {E : L2.St → XK} {x : Str} {q pos : Pos} {e : Expr} {es : List Expr} {t : TA}
theorem pe_callE {p : Addr × Obj} (F : FnE X.prog X.w X.K X.mg X.base k f fd ps sp) (hr : L2H.RoomH k X.A) (hp : p ∈ X.pn) (hg : Gl X x) (hm : X.mg x = some (.ref f)) (hk : PySem.W.keepIn X.K (.ref f) = true) (hb : Binds X.K fd ps []) (hx : ∀ σ, PassesAt (L2.CX X.prog X.w) X σ (E σ))
    (ha : PA X (e :: es) t) (hdb : (x == ("__debug__" : Str)) = false := by decide) (he : starEach (e :: es) X.env = (false, eval e X.env) :: starEach es X.env := by rfl) (hpl : (backTo pos (starEach es X.env)).any (·.1) = false := by rfl) :
    PE X (.Call (.Name x q) (e :: es) [] pos) (tCallS (sp p) E t) := by
  refine ⟨fun pins s σ H Q I h => ?_⟩
  refine wpAny_Call_Name_kw (ld_glob I hg hm ?_ hdb)
  refine PySem.W.callWith_K (h₀ := X.base) I.ok.mod.kin hk (thn (ha.run pos pins s σ H _ I h) ?_) he hpl
  rintro us s1 ⟨vs, H1, I1, r, z⟩
  refine ⟨I1.kIn, ?_⟩
  have hl : us.length = ps.length := by rw [← r.length]; exact F.wide _ _ _ _ _ z
  have b := hb s1 us I1.kIn (by rw [List.append_nil]; exact hl)
  rw [List.append_nil] at b
  have P1 := I1.pin p (List.mem_append_left _ hp)
  have pin : L2H.PinOk X.stack H1 s1 p := ⟨P1.1, P1.2.1, fun m => (List.mem_cons.mp (I1.stkSub p.1 m)).elim P1.2.2.1 P1.2.2.2.1, P1.2.2.2.2⟩
  refine wpAny_call (codeAny_mono (F.goes X.A X.stack s1 H1 ⟨us, []⟩ us vs Q (E σ) p hr pin I1.env0 b r z) ?_)
  intro r s' c
  cases r with
  | error u => exact hx σ pins H1 s1 u s' I1 c
  | ok fl => cases fl with
    | ret u => exact I1.after c
    | next => exact c.elim
    | brk => exact c.elim
    | cont => exact c.elim
end
/-! ### isinstance of it -/
theorem call_isP {X : Cx} {D : Addr} {p : Addr × Obj} (C : ExcC X.K D) (hp : p ∈ X.pn) (hz : L2.Zc (.ref D) none p.2) (hf : ∃ vs, p.2.data = .fields vs) : L2.CallR X (.builtin "isinstance") (rIsE X.K D p.1) := by
  intro pins s σ H xs us Q I r h
  obtain ⟨c, cv, b, rfl, hcv, e, q⟩ := h
  obtain ⟨a, oc, od, oda, osl⟩ := p
  obtain ⟨vs, hv⟩ := hf
  obtain ⟨h1, h2⟩ := hz
  dsimp only at h1 h2 hv
  subst h1 h2 hv
  match us, r with
  | [_, _], .cons rx (.cons rt .nil) =>
    cases rx
    have ec := hcv _ rt
    subst ec
    obtain ⟨hget, _⟩ := I.pin _ (List.mem_append.mpr (.inl hp))
    have J : PySem.W.InstAt s.heap a ⟨.ref D, none, .fields vs, osl⟩ D none := ⟨hget, rfl, rfl, trivial⟩
    exact PySem.W.kia_one (PySem.W.handS_kitx_exc C.hg C.hk C.hs C.hd C.ha C.hn C.ht C.hm) I.kIn J e (fun z => nomatch z) fun tk => ⟨.bl b, H, I.kept (t' := tk) fun _ _ z => z, rfl, q⟩
end RC

set_option Elab.async false
set_option linter.all false
set_option maxRecDepth 100000
set_option maxHeartbeats 2000000
namespace RC
open PySem PySem.Spec PyProof.Rows L2
def mIsP (i : Nat) (a : Addr) (b : Bool) : Env → Res P := fun env => match env[i]? with
  | some (.pin (.ref a')) => if a' = a then .ok (.fz (.bl b)) else .stuck
  | _ => .stuck
section
variable {X : Cx} {Z : Zc} {W : WX} {en N : Str} {p p1 p3 pos : Pos}
theorem r_isP {o : Addr × Obj} {D : Addr} {c : V} {cv : Value} {b : Bool} {i : Nat} (hcl : L2.CallR X (.builtin "isinstance") (rIsE X.K D o.1)) (he : PE X (.Name en p1) (tVar i)) (hc : PE X (.Name N p3) (tC c)) (hcv : ∀ u, RelV c u → u = cv) (hk : PySem.W.kitOne X.K (.ref D) cv = some b)
    (hm : X.mg "isinstance" = none) (hg : Gl X "isinstance" := by rfl)
    (hs : starEach (.Name en p1 :: [.Name N p3]) X.env = (false, eval (.Name en p1) X.env) :: starEach [.Name N p3] X.env := by rfl) (hs2 : starEach (.Name N p3 :: []) X.env = (false, eval (.Name N p3) X.env) :: starEach [] X.env := by rfl) (hpl : (backTo pos (starEach [.Name N p3] X.env)).any (·.1) = false := by rfl) :
    PE X (.Call (.Name "isinstance" p) (.Name en p1 :: [.Name N p3]) [] pos) (tP Z W (mIsP i o.1 b)) :=
  (pe_callB hcl hg hm (by decide +kernel) (pa_cons he (pa_cons hc pa_nil hs2) hs) (by decide) (by decide) hs hpl).pimp fun σ H Q ⟨om, env, rl, q⟩ => by
    unfold mIsP at q
    cases hi : env[i]? with
    | none => rw [hi] at q; exact q.elim
    | some s =>
      rw [hi] at q
      split at q
      · rename_i a' e'
        cases e'
        split at q
        · rename_i ha
          subst ha
          have h1 : σ[i]? = some (some (.ref o.1)) := rl.sl i _ hi
          exact ⟨_, h1, c, cv, b, rfl, hcv, hk, q _ H (Same.refl _) (by unfold POk Hd; rfl)⟩
        · exact q.elim
      · exact q.elim
end
/-- what the def that looks at a caught exception answers -/
def spSeen (g : Ga) (seen : Str → Option (List D)) (o : Addr × Obj) : Sp := fun vs H Q _ => ∃ (C : Addr) (x : Str) (ds : List D), vs = [.ref o.1] ∧ L2.Zc (.ref C) none o.2 ∧ (∃ vs, o.2.data = .fields vs) ∧ g.mg x = some (.ref C) ∧ seen x = some ds ∧
  ∀ (q : Addr) (H' : Hp) (xs : List V), Same H H' → H q = none → H' q = some (.lst xs) → Hds g H' ds xs → Q (.ref q) H'
section
variable {X : Cx} {Z : Zc} {W : WX} {n ex : Str} {c : Value} {i j : Nat} {body suite : List Stmt} {b₀ : Stmt} {np pos pos' : Pos} {sb : Env → Fl}
/-- behind the suite -/
def tSee (g : Ga) (seen : Str → Option (List D)) (j i : Nat) : Addr → Value → Option Addr → TS := fun a cls d De σ H => σ[i]? = some (some (.ref a)) ∧ ∃ (C : Addr) (x : Str) (ds : List D), cls = .ref C ∧ d = none ∧ g.mg x = some (.ref C) ∧ seen x = some ds ∧
  ∀ (q : Addr) (H' : Hp) (xs : List V), Same H H' → H q = none → H' q = some (.lst xs) → Hds g H' ds xs → De.nx (σ.set j (some (.ref q))) H'
def sTry (sb : Env → Fl) (j i : Nat) (ring : Str → Option Bool) (seen : Str → Option (List D)) : Env → Fl := fun env => match sb env with
  | .rs x e => match ring x.cls with
    | some true => match x.fs, seen x.cls, e[i]? with
      | none, some ds, some .un => if free? e j = true ∧ i ≠ j ∧ ds.all scal = true then .nx (e.set j (.fz (.lst ds))) else .stuck
      | _, _, _ => .stuck
    | some false => .rs x e
    | none => .stuck
  | f => f
theorem Rel.unset {om : Om} {σ : L2.St} {H : Hp} {env : Env} (rl : Rel Z om σ H env) {i : Nat} {w : Option V} (h : env[i]? = some .un) : Rel Z om (σ.set i w) H env := by
  refine ⟨rl.tr, rl.nt, rl.kp, by simp [rl.ln], fun k s hk => ?_, fun o ho => ?_⟩
  · by_cases e : i = k
    · subst e; rw [h] at hk; cases hk; trivial
    · rw [List.getElem?_set_ne e]; exact rl.sl k s hk
  · by_cases e : i = 0
    · subst e; rw [h] at ho; cases ho
    · rw [List.getElem?_set_ne e]; exact rl.mu o ho
theorem s_try {ring : Str → Option Bool} {seen : Str → Option (List D)} (ks : Ks X Z W) (hst : X.stack = X.env :: X.outer) (hf : X.env.frame = some X.env.locals) (hi : X.N[i]? = some n) (hln : X.env.kindOf n = some .local) (hc : Names X ex c)
    (hring : ∀ x C b, ring x = some b → Z.g.mg x = some (.ref C) → PySem.W.exmOne X.K (.ref C) c = some b)
    (hb : ∀ (W' : WX) (pn : List (Addr × Obj)) (xe : Value → Shared → Prop), Ks (X.tr pn xe) Z W' → PSs (X.tr pn xe) body (tS Z W' sb))
    (hsu : ∀ (a : Addr) (oe : Obj) (cls : Value) (d : Option Addr) (pn : List (Addr × Obj)), L2.Zc cls d oe → (∃ vs, oe.data = .fields vs) → PSs (X.suite a ((a, oe) :: pn)) (b₀ :: suite) (tSee Z.g seen j i a cls d)) :
    PS X (.Try body [.ExceptHandler (some (.Name ex np)) (some n) (b₀ :: suite) pos'] [] [] pos) (tS Z W (sTry sb j i ring seen)) := by
  refine (ps_try_as (tb := fun W' => tS Z W' sb) (ts := tSee Z.g seen j i) hst hf ks.nd hi hln hc ks.tk (fun W' pn xe tk pa => hb W' pn xe ?_) hsu).pimp ?_
  · exact { gK := ks.gK, gm := ks.gm, calm := ks.calm, hu := ks.hu, esc := fun σ => passAt tk σ, nd := ks.nd, tk := tk, pass := pa }
  intro De σ H ⟨om, env, rl, q⟩
  refine ⟨om, env, rl, ?_⟩
  unfold sTry at q
  cases hm : sb env with
  | nx e => rw [hm] at q; exact q
  | bk e => rw [hm] at q; exact q
  | ct e => rw [hm] at q; exact q
  | rt r e => rw [hm] at q; exact q
  | stuck => rw [hm] at q; exact q.elim
  | rs x e =>
    rw [hm] at q
    simp only at q
    intro cv d om' σ' H' k r xo
    obtain ⟨C, x1, x2, x3⟩ := xo
    subst x2
    cases hr : ring x.cls with
    | none => rw [hr] at q; exact q.elim
    | some b =>
      rw [hr] at q
      refine ⟨b, by rw [← ks.gK] ; rw [ks.gK]; exact hring _ _ _ hr x1, fun hbt a ha => ?_, fun hbf => ?_⟩
      · subst hbt
        simp only at q
        split at q
        · rename_i hfs hse hun
          split at q
          · rename_i hfr
            obtain ⟨f1, f2⟩ := free_ok hfr.1
            rw [hfs] at x3
            refine ⟨by rw [List.getElem?_set_self (by rw [r.ln]; exact (List.getElem?_eq_some_iff.mp hun).1)], C, x.cls, _, rfl, x3, x1, hse, fun p H2 xs sm hn hp hx => ?_⟩
            show De.nx (((σ'.set i (some (.ref a))).set j (some (.ref p))).set i none) H2
            have op : om' p = none := by
              cases ho : om' p with
              | none => rfl
              | some l => obtain ⟨u, hu⟩ := r.tr p l ho; rw [hn] at hu; cases hu
            have r2 := (r.grow sm).unset (w := some (.ref a)) hun
            have r3 := r2.set (i := j) (s := .fz (.lst _)) (v := .ref p) ⟨.ref p, rfl, by
              unfold Hd
              exact ⟨p, xs, rfl, by rw [hide_of op]; exact hp, Hds.scal hfr.2.2 hx⟩⟩ f1 (fun o z => by cases z) f2
            have r4 := r3.unset (w := none) (i := i) (by rw [List.getElem?_set_ne (fun z => hfr.2.1 z.symm)]; exact hun)
            exact q om' _ H2 (k.trans (keep_grow r.tr sm)) r4
          · exact q.elim
        · exact q.elim
      · subst hbf
        exact q _ _ om' σ' H' k r ⟨C, x1, rfl, x3⟩
/-- bad = seen(e) in the suite -/
theorem s_see {f : Addr} {fd : FuncData} {ps : List Str} {k : Nat} {fn bad : Str} {seen : Str → Option (List D)} {a : Addr} {oe : Obj} {cls : Value} {d : Option Addr} {pn : List (Addr × Obj)} {p q1 q2 q3 : Pos} (F : FnE X.prog X.w X.K X.mg X.base k f fd ps (spSeen Z.g seen)) (hr : Room k X.A) (nd : X.N.Nodup) (hj : X.N[j]? = some bad) (hx : Loc X.env.scope bad)
    (hlf : X.fn bad = true ∨ X.env.scope.names.lookup bad = some .local) (hv : ∀ pn, PE (X.suite a pn) (.Name n q1) (tVar i)) (hg : Gl X fn) (hm : X.mg fn = some (.ref f)) (hk : PySem.W.keepIn X.K (.ref f) = true) (hb : Binds X.K fd ps []) (hz : L2.Zc cls d oe) (hf : ∃ vs, oe.data = .fields vs) (hdb : (fn == ("__debug__" : Str)) = false := by decide)
    (he : starEach (.Name n q1 :: []) X.env = (false, eval (.Name n q1) X.env) :: starEach [] X.env := by rfl) (hpl : (backTo q3 (starEach [] X.env)).any (·.1) = false := by rfl) :
    PSs (X.suite a ((a, oe) :: pn)) [.Assign [.Name bad p] (.Call (.Name fn q2) [.Name n q1] [] q3) pos] (tSee Z.g seen j i a cls d) := by
  refine (pss_one (ps_set (X := X.suite a ((a, oe) :: pn)) nd hj hx (pe_callE (X := X.suite a ((a, oe) :: pn)) (p := (a, oe)) (E := WE W0) F ⟨hr.dp, hr.un⟩ List.mem_cons_self hg hm hk hb ?_ (pa_cons (hv _) pa_nil he) hdb he hpl) rfl hlf)).pimp ?_
  · intro σ pins H s e s' I c
    obtain ⟨_, _, _, _, _, _, _, _, _, _, _, _, h⟩ := c
    exact h.elim
  · intro De σ H ⟨h0, C, x, ds, h1, h2, h3, h4, h5⟩
    subst h1 h2
    exact ⟨_, h0, C, x, ds, rfl, hz, hf, h3, h4, fun q H' xs s1 s2 s3 s4 => h5 q H' xs s1 s2 s3 s4⟩
end
end RC

set_option Elab.async false
set_option linter.all false
set_option maxRecDepth 100000
set_option maxHeartbeats 2000000
/-! R13: the rule for a def that is handed a caught exception. -/
namespace RC
open PySem PySem.Spec PyProof.Rows L2
section
variable {P : Program} {w : World} {K : PySem.W.Frag} {mg : Str → Option Value} {base : Heap}
theorem rf_seen {x qual : Str} {st : Stmt} {f : Addr} {fd : FuncData} {N ps : List Str} {k : Nat} {m : Addr → Str → Env → Fl} {seen : Str → Option (List D)} (F : Fun K x qual st f fd) (S : FnScope N ps (defScope st)) (h1 : ps.length = 1) (hN : 1 ≤ N.length)
    (hm : ∀ a c ds, seen c = some ds → ∃ e, m a c (.pin (.ref a) :: List.replicate (N.length - 1) .un) = .rt (.tmp (.lst ds)) e)
    (hb : ∀ (cdv : Value) (A : Around) (outer : List PySem.Env) (s : Shared) (H : Hp) (E : XK) (om0 : Om) (H0 : Hp) (v0 : Option V) (W : WX) (o : Addr × Obj) (C : Addr) (c : Str) (ds : List D), mg c = some (.ref C) → seen c = some ds → L2.Zc (.ref C) none o.2 → (∃ vs, o.2.data = .fields vs) →
      Ks (L2H.cxH (L2.CX P w) P w K mg base N qual (defScope st) f cdv A outer s H E o) ⟨⟨K, mg⟩, om0, H0, v0, true⟩ W →
      PSs (L2H.cxH (L2.CX P w) P w K mg base N qual (defScope st) f cdv A outer s H E o) (defBody st) (tS ⟨⟨K, mg⟩, om0, H0, v0, true⟩ W (m o.1 c))) :
    FnE P w K mg base (k + 1) f fd ps (spSeen ⟨K, mg⟩ seen) := by
  obtain ⟨oc, od, kV, doc, pm, an, cdv, ct, osl, rfl, lk, hcd⟩ := F.ex
  refine fnE_of lk hcd S (fun p vs H Q E h => ?_) (fun A out s H vs Q E o room h => ?_)
  · obtain ⟨C, c, ds, h2, _⟩ := h
    rw [h2, h1]; rfl
  · obtain ⟨C, c, ds, h2, h3, h4, h5, h6, h7⟩ := h
    subst h2
    let om : Om := fun _ => none
    refine ⟨tS ⟨⟨K, mg⟩, om, H, some (.ref o.1), true⟩ (fun cls d _ H => E cls d H) (m o.1 c), hb cdv A out s H E om H (some (.ref o.1)) _ o C c ds h5 h6 h3 h4 ?_, om, .pin (.ref o.1) :: List.replicate (N.length - 1) .un, ?_, ?_⟩
    · have hu : (A.deeper (envOfC qual (defScope st) s.heap.objs.size f cdv)).units + 64 < cLine := by have := room.un; omega
      exact { gK := rfl, gm := rfl, calm := fun z => (by cases z), hu := hu, esc := fun σ => passAt (takes_of rfl rfl rfl rfl) σ, nd := S.nd, tk := takes_of rfl rfl rfl rfl, pass := passes_of rfl }
    · refine ⟨fun a l z => (by cases z), fun a l z => (by cases z), Keep.refl _ _, by simp [L2.start], fun i s hs => ?_, fun o z => (by cases z)⟩
      cases i with
      | zero => cases hs; rfl
      | succ i =>
        have hs : (List.replicate (N.length - 1) RC.S.un)[i]? = some s := hs
        have : s = .un := by
          have := List.mem_of_getElem? hs
          exact (List.mem_replicate.mp this).2
        subst this
        trivial
    · obtain ⟨e, he⟩ := hm o.1 c ds h6
      rw [he]
      intro v om' H' kp tr' ro mu
      obtain ⟨q, xs, e1, e2, e3, e4⟩ := ro
      subst e1
      have sm : Same H H' := fun a u z => (hide_iff.mp (kp.st a u (hide_iff.mpr ⟨rfl, z⟩))).2
      refine h7 q H' xs sm ?_ e3 (e4.mono hide_same)
      cases hq : H q with
      | none => rfl
      | some u =>
        have := (hide_iff.mp (kp.st q u (hide_iff.mpr ⟨rfl, hq⟩))).1
        rw [e2] at this; cases this
end
end RC
namespace RC
open PySem PySem.Spec PyProof.Rows L2
/-- a global def that is handed a caught exception -/
def Cle (P : Program) (w : World) (g : Ga) (base : Heap) (k : Nat) (n : Str) (seen : Str → Option (List D)) : Prop :=
  ∃ f fd ps, FnE P w g.K g.mg base k f fd ps (spSeen g seen) ∧ g.mg n = some (.ref f) ∧ PySem.W.keepIn g.K (.ref f) = true ∧ Binds g.K fd ps []
end RC

set_option Elab.async false
set_option linter.all false
set_option maxRecDepth 100000
set_option maxHeartbeats 2000000
/-! R14: is True, is False. -/
namespace RC
open PySem PySem.Spec PyProof.Rows L2
section
variable {X : Cx} {Z : Zc} {W : WX} {e a b c : Expr} {pos p2 : Pos} {ma mb : RC.Env → Res P}
theorem op_isBl : OpR X (compareOp .Is) (fun x y H Q => ∃ a b, x = .bl a ∧ y = .bl b ∧ Q (.bl (decide (a = b))) H) := by
  intro pins s σ H x y v u Q I rx ry h
  obtain ⟨a, b, rfl, rfl, q⟩ := h
  cases (show v = Value.bool a from rx)
  cases (show u = Value.bool b from ry)
  exact PySem.wpAny_is_plain rfl (fin_bl I q (by cases a <;> cases b <;> rfl))
theorem op_notBl : OpR X (compareOp .IsNot) (fun x y H Q => ∃ a b, x = .bl a ∧ y = .bl b ∧ Q (.bl (!decide (a = b))) H) := by
  intro pins s σ H x y v u Q I rx ry h
  obtain ⟨a, b, rfl, rfl, q⟩ := h
  cases (show v = Value.bool a from rx)
  cases (show u = Value.bool b from ry)
  exact PySem.wpAny_isNot_plain rfl (fin_bl I q (by cases a <;> cases b <;> rfl))
def kIsB (b : Bool) (x : P) : Option Bool := x.bl?.map fun a => decide (a = b)
def kNonB (b : Bool) (x : P) : Option Bool := x.bl?.map fun a => !decide (a = b)
theorem t_isB {b : Bool} {j : Nat} {p3 : Pos} (ha : PE X a (tP Z W ma)) : PT X (.Compare a [.Is] [.Constant (.bool b) j p3] pos) (tB Z W (one1 (kIsB b) ma)) :=
  (pt_cmpR op_isBl ha pe_bl (nomark _)).pimp fun σ H Q ⟨om, env, rl, q⟩ => by
    refine one (k := kIsB b) (B := Q) (T := fun v H' => ∃ x y, v = .bl x ∧ V.bl b = .bl y ∧ ∃ k, V.bl (decide (x = y)) = .bl k ∧ Q k H') rl q fun x v H' e rl' p1 z hk qz => ?_
    cases hz : x.bl? with
    | none => unfold kIsB at hk; rw [hz] at hk; cases hk
    | some z' => unfold kIsB at hk; rw [hz] at hk; cases hk; exact ⟨z', b, p1.bl hz, rfl, _, rfl, qz H' (Same.refl _)⟩
theorem t_nonB {b : Bool} {j : Nat} {p3 : Pos} (ha : PE X a (tP Z W ma)) : PT X (.Compare a [.IsNot] [.Constant (.bool b) j p3] pos) (tB Z W (one1 (kNonB b) ma)) :=
  (pt_cmpR op_notBl ha pe_bl (nomark _)).pimp fun σ H Q ⟨om, env, rl, q⟩ => by
    refine one (k := kNonB b) (B := Q) (T := fun v H' => ∃ x y, v = .bl x ∧ V.bl b = .bl y ∧ ∃ k, V.bl (!decide (x = y)) = .bl k ∧ Q k H') rl q fun x v H' e rl' p1 z hk qz => ?_
    cases hz : x.bl? with
    | none => unfold kNonB at hk; rw [hz] at hk; cases hk
    | some z' => unfold kNonB at hk; rw [hz] at hk; cases hk; exact ⟨z', b, p1.bl hz, rfl, _, rfl, qz H' (Same.refl _)⟩
theorem v_isB {b : Bool} {j : Nat} {p3 : Pos} (ha : PE X a (tP Z W ma)) : PE X (.Compare a [.Is] [.Constant (.bool b) j p3] pos) (tP Z W (mBl (one1 (kIsB b) ma))) :=
  (pe_cmpR op_isBl ha pe_bl (nomark _)).pimp fun σ H Q ⟨om, env, rl, q⟩ => by
    refine one (T := fun v H' => ∃ x y, v = .bl x ∧ V.bl b = .bl y ∧ Q (.bl (decide (x = y))) H') rl (q_fz q) fun x v H' e rl' p1 z hk qz => ?_
    cases hz : x.bl? with
    | none => unfold kIsB at hk; rw [hz] at hk; cases hk
    | some z' => unfold kIsB at hk; rw [hz] at hk; cases hk; exact ⟨z', b, p1.bl hz, rfl, qz H' (Same.refl _) _ (by unfold Hd; rfl)⟩
theorem v_nonB {b : Bool} {j : Nat} {p3 : Pos} (ha : PE X a (tP Z W ma)) : PE X (.Compare a [.IsNot] [.Constant (.bool b) j p3] pos) (tP Z W (mBl (one1 (kNonB b) ma))) :=
  (pe_cmpR op_notBl ha pe_bl (nomark _)).pimp fun σ H Q ⟨om, env, rl, q⟩ => by
    refine one (T := fun v H' => ∃ x y, v = .bl x ∧ V.bl b = .bl y ∧ Q (.bl (!decide (x = y))) H') rl (q_fz q) fun x v H' e rl' p1 z hk qz => ?_
    cases hz : x.bl? with
    | none => unfold kNonB at hk; rw [hz] at hk; cases hk
    | some z' => unfold kNonB at hk; rw [hz] at hk; cases hk; exact ⟨z', b, p1.bl hz, rfl, qz H' (Same.refl _) _ (by unfold Hd; rfl)⟩
end
section
variable {X : Cx} {Z : Zc} {W : WX} {a b iter elt tg : Expr} {ifs : List Expr} {scope : Scope} {pos p p2 py spos : Pos} {ma : Env → Res P} {mr : Env → Res (List P)} {v : Nat} {tc : Env → Res Bool} {me : Env → Res P} {om : Om} {env : Env} {σ : L2.St} {H : Hp}
/-- .. over a list that may be owned -/
theorem lcO_imp : ∀ σ H Q, tO Z W (mLc P.lst? v ma tc me) σ H Q → tLc (iList X.K (tP Z W ma)) (gName v) (tB Z W0 tc) (tP Z W0 me) [v] σ H Q := fun σ H Q ⟨om, env, rl, q⟩ => by
  unfold mLc at q
  refine ⟨om, env, rl, ?_⟩
  cases hma : ma env with
  | stuck => rw [hma] at q; exact q
  | rs x => rw [hma] at q; exact q
  | ok pp =>
    rw [hma] at q
    simp only at q
    intro w H1 e1 po
    cases hit : pp.lst? with
    | none => rw [hit] at q; exact q.elim
    | some ds =>
      rw [hit] at q
      obtain ⟨q1, q2, z, q3, q4⟩ := mComp_ok q
      obtain ⟨a, xs, h1, h3, h2⟩ := po.lst hit
      refine ⟨a, h1, ⟨xs, SqL.of h3⟩, fun A hA => ?_⟩
      have rl1 := rl.grow e1
      have sub : ∀ H', Same H1 H' → Same (hide om H1) (hide (lab om A (.slot env.length)) H') := fun H' s x u w => by
        obtain ⟨w1, w2⟩ := hide_iff.mp w
        exact hide_iff.mpr ⟨by rw [lab_ne (ne_of_none w2 hA)]; exact w1, s _ _ w2⟩
      refine lc_list (xs := xs) (CSt Z om σ env H1 v A tc me ds z) (comp_start rl1 hA (free_ok q1).1 q3) (fun i H' _ c => ?_) (fun i x H' hx c => ?_) (fun H' c => ?_)
      · obtain ⟨_, _, _, _, _, s, _⟩ := c
        exact SqL.of (s _ _ h3)
      · obtain ⟨d, hd1, hd2⟩ := h2.get' hx
        have s : Same H1 H' := by obtain ⟨_, _, _, _, _, s, _⟩ := c; exact s
        exact comp_turn (T2 := fun _ _ => True) q2 hd1 hA c (hd2.mono (sub H' s))
      · rw [← h2.len] at c
        exact comp_end rl e1 hA c q4
end
end RC

set_option Elab.async false
set_option linter.all false
set_option maxRecDepth 100000
set_option maxHeartbeats 1000000
/-! A1: evaluating mirrors: equations for simp, loops by invariants. -/
namespace RC
open PySem PySem.Spec PyProof.Rows L2

@[simp] theorem bind_ok {α β : Type} (a : α) (f : α → Res β) : (Res.ok a).bind f = f a := id rfl
@[simp] theorem bind_rs {α β : Type} (x : Exc) (f : α → Res β) : (Res.rs x : Res α).bind f = .rs x := id rfl
@[simp] theorem bind_st {α β : Type} (f : α → Res β) : (Res.stuck : Res α).bind f = .stuck := id rfl
@[simp] theorem map_ok {α β : Type} (a : α) (f : α → β) : (Res.ok a).map f = .ok (f a) := id rfl
@[simp] theorem map_rs {α β : Type} (x : Exc) (f : α → β) : (Res.rs x : Res α).map f = .rs x := id rfl
@[simp] theorem of_some {α : Type} (a : α) : Res.of (some a) = .ok a := id rfl
@[simp] theorem of_none {α : Type} : Res.of (none : Option α) = .stuck := id rfl
@[simp] theorem op_fz (d : D) : R.op (.fz d) = .fz d := id rfl
@[simp] theorem op_tmp (o : O) : R.op (.tmp o) = .fz o.cold := id rfl
@[simp] theorem op_bor (l : Lab) (o : O) : R.op (.bor l o) = .bor l o := id rfl
@[simp] theorem r_fz (d : D) : P.r (.fz d) = .fz d := id rfl
@[simp] theorem r_bor (l : Lab) (o : O) : P.r (.bor l o) = .bor l o := id rfl
@[simp] theorem s_fz (d : D) : P.s (.fz d) = .fz d := id rfl
@[simp] theorem s_bor (l : Lab) (o : O) : P.s (.bor l o) = .rd o := id rfl
@[simp] theorem cold_lst (ds : List D) : O.cold (.lst ds) = .lst ds := id rfl
@[simp] theorem mC_eq (d : D) (env : Env) : mC d env = .ok (.fz d) := id rfl
@[simp] theorem mOp_eq (m : Env → Res R) (env : Env) : mOp m env = (m env).map R.op := id rfl
@[simp] theorem mUp_eq (m : Env → Res P) (env : Env) : mUp m env = (m env).map P.r := id rfl
@[simp] theorem mNil_eq (env : Env) : mNil env = .ok [] := id rfl
@[simp] theorem mCons_eq (a : Env → Res P) (r : Env → Res (List P)) (env : Env) : mCons a r env = (a env).bind fun x => (r env).map fun r => x :: r := id rfl
@[simp] theorem m2_eq {α : Type} (k : P → P → Option α) (a b : Env → Res P) (env : Env) : m2 k a b env = (a env).bind fun x => (b env).bind fun y => .of (k x y) := id rfl
@[simp] theorem one1_eq {α : Type} (k : P → Option α) (a : Env → Res P) (env : Env) : one1 k a env = (a env).bind fun x => .of (k x) := id rfl
@[simp] theorem oneA_eq {α : Type} (k : List P → Option α) (a : Env → Res (List P)) (env : Env) : oneA k a env = (a env).bind fun x => .of (k x) := id rfl
@[simp] theorem mI_eq (f : Int → Int → Option Int) (a b : Env → Res P) (env : Env) : mI f a b env = (m2 (kI f) a b env).map fun z => .fz (.int z) := id rfl
@[simp] theorem mNeg_eq (a : Env → Res P) (env : Env) : mNeg a env = (one1 (kI1 iNeg) a env).map fun z => .fz (.int z) := id rfl
@[simp] theorem mBl_eq (m : Env → Res Bool) (env : Env) : mBl m env = (m env).map fun z => .fz (.bl z) := id rfl
@[simp] theorem mIx_eq (a b : Env → Res P) (env : Env) : mIx a b env = (m2 kIx a b env).map fun z => .fz z := id rfl
@[simp] theorem mLen_eq (a : Env → Res (List P)) (env : Env) : mLen a env = (oneA kLen a env).map fun z => .fz (.int z) := id rfl
@[simp] theorem mSum_eq (a : Env → Res (List P)) (env : Env) : mSum a env = (oneA kSum a env).map fun z => .fz (.int z) := id rfl
@[simp] theorem mMin2_eq (a : Env → Res (List P)) (env : Env) : mMin2 a env = (oneA kMin2 a env).map fun z => .fz (.int z) := id rfl
@[simp] theorem mMax2_eq (a : Env → Res (List P)) (env : Env) : mMax2 a env = (oneA kMax2 a env).map fun z => .fz (.int z) := id rfl
@[simp] theorem mInt_eq (a : Env → Res (List P)) (env : Env) : mInt a env = (oneA kInt a env).map fun z => .fz (.int z) := id rfl
@[simp] theorem mListc_eq (a : Env → Res (List P)) (env : Env) : mListc a env = (oneA kListc a env).map fun z => .tmp (.lst z) := id rfl
@[simp] theorem mTupc_eq (a : Env → Res (List P)) (env : Env) : mTupc a env = (oneA kTupc a env).map fun z => .fz (.tup z) := id rfl
@[simp] theorem mLst_eq (a : Env → Res (List P)) (env : Env) : mLst a env = (oneA kDisp a env).map fun z => .tmp (.lst z) := id rfl
@[simp] theorem mTup_eq (a : Env → Res (List P)) (env : Env) : mTup a env = (oneA kDisp a env).map fun z => .fz (.tup z) := id rfl
@[simp] theorem mCat_eq (a b : Env → Res P) (env : Env) : mCat a b env = (m2 kCat a b env).map fun z => .tmp (.lst z) := id rfl
@[simp] theorem mRep_eq (a b : Env → Res P) (env : Env) : mRep a b env = (m2 kRep a b env).map fun z => .tmp (.lst z) := id rfl
@[simp] theorem mCatT_eq (a b : Env → Res P) (env : Env) : mCatT a b env = (m2 kCatT a b env).map fun z => .fz (.tup z) := id rfl
@[simp] theorem mCall_eq (f : List S → CallR) (a : Env → Res (List P)) (env : Env) : mCall f a env = (a env).bind fun ps => mRun (f (ps.map P.s)) := id rfl
@[simp] theorem mRun_fz (d : D) (o : Option O) : mRun (.ok (.fz d) o) = .ok (.fz d) := id rfl
@[simp] theorem mRun_tmp (d : O) (o : Option O) : mRun (.ok (.tmp d) o) = .ok (.tmp d) := id rfl
@[simp] theorem mRun_rs (x : Exc) (o : Option O) : mRun (.rs x o) = .rs x := id rfl
@[simp] theorem bAnd_eq (a b : Env → Res Bool) (env : Env) : bAnd a b env = (a env).bind fun x => if x = true then b env else .ok false := id rfl
@[simp] theorem bOr_eq (a b : Env → Res Bool) (env : Env) : bOr a b env = (a env).bind fun x => if x = true then .ok true else b env := id rfl
@[simp] theorem bNot_eq (a : Env → Res Bool) (env : Env) : bNot a env = (a env).map Bool.not := id rfl
@[simp] theorem mAnd_eq (a b : Env → Res P) (env : Env) : mAnd a b env = (one1 P.bl? a env).bind fun x => if x = true then b env else .ok (.fz (.bl false)) := id rfl
@[simp] theorem mOr_eq (a b : Env → Res P) (env : Env) : mOr a b env = (one1 P.bl? a env).bind fun x => if x = true then .ok (.fz (.bl true)) else b env := id rfl
@[simp] theorem mNot_eq (a : Env → Res P) (env : Env) : mNot a env = (one1 P.bl? a env).map fun z => .fz (.bl (!z)) := id rfl
@[simp] theorem mIf_eq (t : Env → Res Bool) (a b : Env → Res P) (env : Env) : mIf t a b env = (t env).bind fun x => if x = true then a env else b env := id rfl
@[simp] theorem tYesB_eq (env : Env) : tYesB env = .ok true := id rfl
@[simp] theorem mNoP_eq (env : Env) : mNoP env = .ok none := id rfl
@[simp] theorem mPart_eq (a : Env → Res P) (env : Env) : mPart a env = (a env).bind fun x => .of (x.int?.map some) := id rfl
@[simp] theorem m3_eq {α : Type} (k : P → Option Int → Option Int → Option α) (a : Env → Res P) (l h : Env → Res (Option Int)) (env : Env) : m3 k a l h env = (a env).bind fun x => (l env).bind fun lo => (h env).bind fun hi => .of (k x lo hi) := id rfl
@[simp] theorem mSlL_eq (a : Env → Res P) (l h : Env → Res (Option Int)) (env : Env) : mSlL a l h env = (m3 kSlL a l h env).map fun z => .tmp (.lst z) := id rfl
@[simp] theorem mSlT_eq (a : Env → Res P) (l h : Env → Res (Option Int)) (env : Env) : mSlT a l h env = (m3 kSlT a l h env).map fun z => .fz (.tup z) := id rfl
/-! names -/
def varK (i : Nat) (s : Option S) : Res P := match s with
  | some (.fz d) => .ok (.fz d)
  | some (.rd o) => .ok (.bor .amb o)
  | some (.ow o) => .ok (.bor (.slot i) o)
  | some (.mu o) => .ok (.bor (.slot i) o)
  | _ => .stuck
@[simp] theorem mVar_eq (i : Nat) (env : Env) : mVar i env = varK i env[i]? := id rfl
@[simp] theorem varK_fz (i : Nat) (d : D) : varK i (some (.fz d)) = .ok (.fz d) := id rfl
@[simp] theorem varK_rd (i : Nat) (d : O) : varK i (some (.rd d)) = .ok (.bor .amb d) := id rfl
@[simp] theorem varK_ow (i : Nat) (d : O) : varK i (some (.ow d)) = .ok (.bor (.slot i) d) := id rfl
@[simp] theorem varK_mu (i : Nat) (d : O) : varK i (some (.mu d)) = .ok (.bor (.slot i) d) := id rfl
def S.free : S → Bool
  | .mu _ => false
  | _ => true
@[simp] theorem S.free_fz (d : D) : S.free (.fz d) = true := id rfl
@[simp] theorem S.free_un : S.free .un = true := id rfl
@[simp] theorem S.free_rd (o : O) : S.free (.rd o) = true := id rfl
@[simp] theorem S.free_ow (o : O) : S.free (.ow o) = true := id rfl
def freeK (s : Option S) : Bool := match s with
  | some s => s.free
  | none => false
@[simp] theorem freeK_some (s : S) : freeK (some s) = s.free := id rfl
@[simp] theorem free?_eq (env : Env) (i : Nat) : free? env i = freeK env[i]? := by
  unfold free? freeK
  cases env[i]? with
  | none => rfl
  | some s => cases s <;> rfl
/-! operands -/
@[simp] theorem int?_fz (i : Int) : P.int? (.fz (.int i)) = some i := id rfl
@[simp] theorem bl?_fz (i : Bool) : P.bl? (.fz (.bl i)) = some i := id rfl
@[simp] theorem str?_fz (i : Str) : P.str? (.fz (.str i)) = some i := id rfl
@[simp] theorem lst?_fz (ds : List D) : P.lst? (.fz (.lst ds)) = some ds := id rfl
@[simp] theorem lst?_bor (l : Lab) (ds : List D) : P.lst? (.bor l (.lst ds)) = some ds := id rfl
@[simp] theorem tup?_fz (ds : List D) : P.tup? (.fz (.tup ds)) = some ds := id rfl
@[simp] theorem d?_fz (d : D) : P.d? (.fz d) = some d := id rfl
@[simp] theorem seq?_lst (ds : List D) : P.seq? (.fz (.lst ds)) = some ds := id rfl
@[simp] theorem seq?_tup (ds : List D) : P.seq? (.fz (.tup ds)) = some ds := id rfl
@[simp] theorem seq?_bor (l : Lab) (ds : List D) : P.seq? (.bor l (.lst ds)) = some ds := id rfl
@[simp] theorem it?_lst (ds : List D) : P.it? (.fz (.lst ds)) = some ds := id rfl
@[simp] theorem it?_amb (ds : List D) : P.it? (.bor .amb (.lst ds)) = some ds := id rfl
@[simp] theorem kI_int {α : Type} (f : Int → Int → Option α) (i j : Int) : kI f (.fz (.int i)) (.fz (.int j)) = f i j := id rfl
@[simp] theorem kI1_int {α : Type} (f : Int → Option α) (i : Int) : kI1 f (.fz (.int i)) = f i := id rfl
@[simp] theorem kLt_int (i j : Int) : kLt (.fz (.int i)) (.fz (.int j)) = some (decide (i < j)) := id rfl
@[simp] theorem kLe_int (i j : Int) : kLe (.fz (.int i)) (.fz (.int j)) = some (decide (i ≤ j)) := id rfl
@[simp] theorem kGt_int (i j : Int) : kGt (.fz (.int i)) (.fz (.int j)) = some (decide (j < i)) := id rfl
@[simp] theorem kGe_int (i j : Int) : kGe (.fz (.int i)) (.fz (.int j)) = some (decide (j ≤ i)) := id rfl
@[simp] theorem iAdd_eq (i j : Int) : iAdd i j = some (i + j) := id rfl
@[simp] theorem iSub_eq (i j : Int) : iSub i j = some (i - j) := id rfl
@[simp] theorem iNeg_eq (i : Int) : iNeg i = some (-i) := id rfl
theorem kRng1_eq (p : P) : kRng1 [p] = (p.int?).bind fun j => if -4611686018427387904 ≤ j ∧ j < 4611686018427387904 then some ((0 : Int), j.toNat) else none := by
  cases h : p.int? with
  | none => simp [kRng1, h]
  | some j => simp [kRng1, h]
theorem iMul_l {i j : Int} (h1 : -18446744073709551616 < i) (h2 : i < 18446744073709551616) : iMul i j = some (i * j) := if_pos (.inl ⟨h1, h2⟩)
theorem iMul_r {i j : Int} (h1 : -18446744073709551616 < j) (h2 : j < 18446744073709551616) : iMul i j = some (i * j) := if_pos (.inr ⟨h1, h2⟩)
theorem iMod_pos {i j : Int} (h : 0 < j) : iMod i j = some (i % j) := if_pos h
theorem iDiv_pos {i j : Int} (h : 0 < j) (h2 : j < 1073741824) : iDiv i j = some (i / j) := if_pos ⟨h, h2⟩
theorem kEq_int (i j : Int) : kEq (.fz (.int i)) (.fz (.int j)) = some (i == j) := rfl
theorem kNe_int (i j : Int) : kNe (.fz (.int i)) (.fz (.int j)) = some (!(i == j)) := rfl

/-! statements -/
def thenD (f : Fl) (b : Env → Fl) : Fl := match f with
  | .nx e => b e
  | f => f
@[simp] theorem sSeq_eq (a b : Env → Fl) (env : Env) : sSeq a b env = thenD (a env) b := id rfl
@[simp] theorem thenD_nx (e : Env) (b : Env → Fl) : thenD (.nx e) b = b e := id rfl
@[simp] theorem thenD_rt (r : R) (e : Env) (b : Env → Fl) : thenD (.rt r e) b = .rt r e := id rfl
@[simp] theorem thenD_rs (r : Exc) (e : Env) (b : Env → Fl) : thenD (.rs r e) b = .rs r e := id rfl
@[simp] theorem thenD_bk (e : Env) (b : Env → Fl) : thenD (.bk e) b = .bk e := id rfl
@[simp] theorem thenD_ct (e : Env) (b : Env → Fl) : thenD (.ct e) b = .ct e := id rfl
@[simp] theorem sNil_eq (e : Env) : sNil e = .nx e := id rfl
def ifD (r : Res Bool) (a b : Env → Fl) (env : Env) : Fl := match r with
  | .ok x => if x = true then a env else b env
  | .rs x => .rs x env
  | .stuck => .stuck
@[simp] theorem sIf_eq (t : Env → Res Bool) (a b : Env → Fl) (env : Env) : sIf t a b env = ifD (t env) a b env := id rfl
@[simp] theorem ifD_ok (x : Bool) (a b : Env → Fl) (env : Env) : ifD (.ok x) a b env = if x = true then a env else b env := id rfl
def setK (i : Nat) (r : Res P) (env : Env) : Fl := match r with
  | .ok p => match setP env i p with
    | some e => .nx e
    | none => .stuck
  | .rs x => .rs x env
  | .stuck => .stuck
@[simp] theorem sSet_eq (i : Nat) (a : Env → Res P) (env : Env) : sSet i a env = setK i (a env) env := id rfl
@[simp] theorem setP_fz (env : Env) (i : Nat) (d : D) : setP env i (.fz d) = if free? env i = true then some (env.set i (.fz d)) else none := id rfl
@[simp] theorem setK_fz (i : Nat) (d : D) (env : Env) (h : free? env i = true) : setK i (.ok (.fz d)) env = .nx (env.set i (.fz d)) := by
  show (match setP env i (.fz d) with
    | some e => Fl.nx e
    | none => .stuck) = _
  rw [setP_fz, if_pos h]
@[simp] theorem setK_rs (i : Nat) (x : Exc) (env : Env) : setK i (.rs x) env = .rs x env := id rfl
def ownK (i : Nat) (r : Res R) (env : Env) : Fl := match r with
  | .ok (.tmp o) => if free? env i = true then .nx (env.set i (.ow o)) else .stuck
  | .rs x => .rs x env
  | _ => .stuck
@[simp] theorem sOwn_eq (i : Nat) (a : Env → Res R) (env : Env) : sOwn i a env = ownK i (a env) env := id rfl
@[simp] theorem ownK_tmp (i : Nat) (o : O) (env : Env) (h : free? env i = true) : ownK i (.ok (.tmp o)) env = .nx (env.set i (.ow o)) := if_pos h
def retK (r : Res R) (env : Env) : Fl := match r with
  | .ok r => .rt r env
  | .rs x => .rs x env
  | .stuck => .stuck
@[simp] theorem sRet_eq (a : Env → Res R) (env : Env) : sRet a env = retK (a env) env := id rfl
@[simp] theorem retK_ok (r : R) (env : Env) : retK (.ok r) env = .rt r env := id rfl
@[simp] theorem retK_rs (x : Exc) (env : Env) : retK (.rs x) env = .rs x env := id rfl
def retOK (s : Option S) (env : Env) : Fl := match s with
  | some (.ow o) => .rt (.tmp o) env
  | _ => .stuck
@[simp] theorem sRetO_eq (i : Nat) (env : Env) : sRetO i env = retOK env[i]? env := id rfl
@[simp] theorem retOK_ow (o : O) (env : Env) : retOK (some (.ow o)) env = .rt (.tmp o) env := id rfl
@[simp] theorem sRetN_eq (env : Env) : sRetN env = .rt (.fz .non) env := id rfl
def coldK (s : Option S) (i : Nat) (m : Env → Fl) (env : Env) : Fl := match s with
  | some (.ow o) => m (env.set i (.fz o.cold))
  | _ => .stuck
@[simp] theorem sCold_eq (i : Nat) (m : Env → Fl) (env : Env) : sCold i m env = coldK env[i]? i m env := id rfl
@[simp] theorem coldK_ow (o : O) (i : Nat) (m : Env → Fl) (env : Env) : coldK (some (.ow o)) i m env = m (env.set i (.fz o.cold)) := id rfl
@[simp] theorem sRaise_eq (x : Str) (env : Env) : sRaise x env = .rs ⟨x, none⟩ env := id rfl
def expK (r : Res R) (env : Env) : Fl := match r with
  | .ok _ => .nx env
  | .rs x => .rs x env
  | .stuck => .stuck
@[simp] theorem sExp_eq (a : Env → Res R) (env : Env) : sExp a env = expK (a env) env := id rfl
@[simp] theorem expK_ok (r : R) (env : Env) : expK (.ok r) env = .nx env := id rfl
@[simp] theorem expK_rs (r : Exc) (env : Env) : expK (.rs r) env = .rs r env := id rfl
def appK (s : Option S) (r : Res P) (i : Nat) (env : Env) : Fl := match s with
  | some (.ow (.lst ds)) => match r with
    | .ok (.fz d) => if ds.length < 16777216 then .nx (env.set i (.ow (.lst (ds ++ [d])))) else .stuck
    | .rs x => .rs x env
    | _ => .stuck
  | _ => .stuck
@[simp] theorem sApp_eq (i : Nat) (a : Env → Res P) (env : Env) : sApp i a env = appK env[i]? (a env) i env := id rfl
@[simp] theorem appK_ow (ds : List D) (d : D) (i : Nat) (env : Env) : appK (some (.ow (.lst ds))) (.ok (.fz d)) i env = if ds.length < 16777216 then .nx (env.set i (.ow (.lst (ds ++ [d])))) else .stuck := id rfl
def itK (s : Option S) (r k : Res P) (i : Nat) (env : Env) : Fl := match s with
  | some (.ow (.lst ds)) => match r.bind fun x => k.bind fun y => .of (match x, y.int? with
    | .fz d, some k => setD ds k d
    | _, _ => none) with
    | .ok ds' => .nx (env.set i (.ow (.lst ds')))
    | .rs x => .rs x env
    | .stuck => .stuck
  | _ => .stuck
def itE (r : Option (List D)) (i : Nat) (env : Env) : Fl := match r with
  | some ds' => .nx (env.set i (.ow (.lst ds')))
  | none => .stuck
@[simp] theorem sIt_eq (i : Nat) (k a : Env → Res P) (env : Env) : sIt i k a env = itK env[i]? (a env) (k env) i env := id rfl
@[simp] theorem itK_ow (ds : List D) (d : D) (k : Int) (i : Nat) (env : Env) : itK (some (.ow (.lst ds))) (.ok (.fz d)) (.ok (.fz (.int k))) i env = itE (setD ds k d) i env := by
  unfold itK itE
  simp only [bind_ok, int?_fz]
  cases setD ds k d <;> rfl
@[simp] theorem itE_some (ds : List D) (i : Nat) (env : Env) : itE (some ds) i env = .nx (env.set i (.ow (.lst ds))) := id rfl
theorem setD_ok {ds : List D} {k : Int} {j : Nat} {d : D} (hk : k = (j : Int)) (hj : j < ds.length) : setD ds k d = some (ds.set j d) := by
  unfold setD ixN
  rw [hk, if_pos (by omega), if_pos (by omega)]
  simp
def augIK (f : Int → Int → Int) (s : Option S) (k r : Res P) (i : Nat) (env : Env) : Fl := match s with
  | some (.ow (.lst ds)) => match k with
    | .ok y => match augAt ds y with
      | some (n, w) => match r with
        | .ok z => match z.int? with
          | some z => .nx (env.set i (.ow (.lst (ds.set n (.int (f w z))))))
          | none => .stuck
        | .rs x => .rs x env
        | .stuck => .stuck
      | none => .stuck
    | .rs x => .rs x env
    | .stuck => .stuck
  | _ => .stuck
def augE (f : Int → Int → Int) (ds : List D) (r : Option (Nat × Int)) (z : Int) (i : Nat) (env : Env) : Fl := match r with
  | some (n, w) => .nx (env.set i (.ow (.lst (ds.set n (.int (f w z))))))
  | none => .stuck
@[simp] theorem sAugI_eq (f : Int → Int → Int) (i : Nat) (k a : Env → Res P) (env : Env) : sAugI f i k a env = augIK f env[i]? (k env) (a env) i env := id rfl
@[simp] theorem augIK_ow (f : Int → Int → Int) (ds : List D) (y : P) (z : Int) (i : Nat) (env : Env) : augIK f (some (.ow (.lst ds))) (.ok y) (.ok (.fz (.int z))) i env = augE f ds (augAt ds y) z i env := by
  show (match augAt ds y with
      | some (n, w) => (.nx (env.set i (.ow (.lst (ds.set n (.int (f w z)))))) : Fl)
      | none => .stuck) = _
  cases augAt ds y <;> rfl
@[simp] theorem augE_some (f : Int → Int → Int) (ds : List D) (n : Nat) (w z : Int) (i : Nat) (env : Env) : augE f ds (some (n, w)) z i env = .nx (env.set i (.ow (.lst (ds.set n (.int (f w z)))))) := id rfl
theorem augAt_at {ds : List D} {k : Int} {n : Nat} {w : Int} (hk : k = (n : Int)) (h : ds[n]? = some (.int w)) : augAt ds (.fz (.int k)) = some (n, w) := by
  unfold augAt
  rw [hk]
  simp only [int?_fz, Int.toNat_natCast, h]
  rw [if_pos (by omega)]
def augK (f : Int → Int → Int) (s : Option S) (r : Res P) (i : Nat) (env : Env) : Fl := match s with
  | some (.fz (.int w)) => match r with
    | .ok z => match z.int? with
      | some z => .nx (env.set i (.fz (.int (f w z))))
      | none => .stuck
    | .rs x => .rs x env
    | .stuck => .stuck
  | _ => .stuck
@[simp] theorem sAug_eq (f : Int → Int → Int) (i : Nat) (a : Env → Res P) (env : Env) : sAug f i a env = augK f env[i]? (a env) i env := id rfl
@[simp] theorem augK_int (f : Int → Int → Int) (w z : Int) (i : Nat) (env : Env) : augK f (some (.fz (.int w))) (.ok (.fz (.int z))) i env = .nx (env.set i (.fz (.int (f w z)))) := id rfl
def popAtK (s : Option S) (r : Res P) (j i : Nat) (env : Env) : Fl := match s with
  | some (.ow (.lst ds)) => match r with
    | .ok (.fz (.int k)) => if -9223372036854775808 ≤ k ∧ k < 9223372036854775808 then match seqIndex? k ds.length with
      | some n => match ds[n]? with
        | some d => match setP (env.set i (.ow (.lst (ds.eraseIdx n)))) j (.fz d) with
          | some e' => .nx e'
          | none => .stuck
        | none => .stuck
      | none => .stuck
      else .stuck
    | .rs x => .rs x env
    | _ => .stuck
  | _ => .stuck
@[simp] theorem sPopAt_eq (j i : Nat) (a : Env → Res P) (env : Env) : sPopAt j i a env = popAtK env[i]? (a env) j i env := id rfl
theorem popAtK_ow {ds : List D} {k : Int} {n : Nat} {d : D} {j i : Nat} {env : Env} (hk : k = (n : Int)) (hn : (n : Int) < 9223372036854775808) (hd : ds[n]? = some d) (hf : free? (env.set i (.ow (.lst (ds.eraseIdx n)))) j = true) :
    popAtK (some (.ow (.lst ds))) (.ok (.fz (.int k))) j i env = .nx ((env.set i (.ow (.lst (ds.eraseIdx n)))).set j (.fz d)) := by
  have hl := (List.getElem?_eq_some_iff.mp hd).1
  have hs : seqIndex? k ds.length = some n := by rw [hk, seqIndex_of (by omega) (by omega)]; simp
  unfold popAtK
  simp only
  rw [if_pos ⟨by omega, by omega⟩, hs]
  simp only [hd, setP_fz, if_pos hf]
/-! targets -/
@[simp] theorem gN_eq (i : Nat) (d : D) (env : Env) : gN i d env = setP env i (.fz d) := id rfl
@[simp] theorem gsNil_eq (env : Env) : gsNil [] env = some env := id rfl
@[simp] theorem gsCons_eq (g : D → Env → Option Env) (h : List D → Env → Option Env) (d : D) (ds : List D) (env : Env) : gsCons g h (d :: ds) env = (g d env).bind (h ds) := by
  show (match g d env with
    | some e => h ds e
    | none => none) = _
  cases g d env <;> rfl
@[simp] theorem gT_eq (h : List D → Env → Option Env) (n : Nat) (ds : List D) (env : Env) (hn : ds.length = n) : gT h n (.tup ds) env = h ds env := if_pos hn
def unpK (g : D → Env → Option Env) (r : Res P) (env : Env) : Fl := match r with
  | .ok (.fz d) => match g d env with
    | some e => .nx e
    | none => .stuck
  | .rs x => .rs x env
  | _ => .stuck
@[simp] theorem sUnp_eq (g : D → Env → Option Env) (a : Env → Res P) (env : Env) : sUnp g a env = unpK g (a env) env := id rfl
theorem unpK_fz {g : D → Env → Option Env} {d : D} {env e : Env} (h : g d env = some e) : unpK g (.ok (.fz d)) env = .nx e := by unfold unpK; simp only [h]
/-! loops -/
def forK (it : P → Option (List D)) (r : Res P) (g : D → Env → Option Env) (b : Env → Fl) (env : Env) : Fl := match r with
  | .ok p => match it p with
    | some ds => forD g b ds env
    | none => .stuck
  | .rs x => .rs x env
  | .stuck => .stuck
@[simp] theorem sFor_eq (it : P → Option (List D)) (a : Env → Res P) (g : D → Env → Option Env) (b : Env → Fl) (env : Env) : sFor it a g b env = forK it (a env) g b env := id rfl
theorem forK_ok {it : P → Option (List D)} {p : P} {g : D → Env → Option Env} {b : Env → Fl} {env : Env} {ds : List D} (h : it p = some ds) : forK it (.ok p) g b env = forD g b ds env := by unfold forK; simp only [h]
@[simp] theorem forK_it (ds : List D) (g : D → Env → Option Env) (b : Env → Fl) (env : Env) : forK P.it? (.ok (.fz (.lst ds))) g b env = forD g b ds env := id rfl
@[simp] theorem forK_amb (ds : List D) (g : D → Env → Option Env) (b : Env → Fl) (env : Env) : forK P.it? (.ok (.bor .amb (.lst ds))) g b env = forD g b ds env := id rfl
@[simp] theorem forK_tup (ds : List D) (g : D → Env → Option Env) (b : Env → Fl) (env : Env) : forK P.tup? (.ok (.fz (.tup ds))) g b env = forD g b ds env := id rfl
def forRK (r : Res (Int × Nat)) (g : D → Env → Option Env) (b : Env → Fl) (env : Env) : Fl := match r with
  | .ok z => forD g b (rngD z.1 z.2) env
  | .rs x => .rs x env
  | .stuck => .stuck
@[simp] theorem sForR_eq (k : List P → Option (Int × Nat)) (a : Env → Res (List P)) (g : D → Env → Option Env) (b : Env → Fl) (env : Env) : sForR k a g b env = forRK (oneA k a env) g b env := id rfl
@[simp] theorem forRK_ok (z : Int × Nat) (g : D → Env → Option Env) (b : Env → Fl) (env : Env) : forRK (.ok z) g b env = forD g b (rngD z.1 z.2) env := id rfl
theorem kRng2_int {i j : Int} (h : -4611686018427387904 ≤ i ∧ i < 4611686018427387904 ∧ -4611686018427387904 ≤ j ∧ j < 4611686018427387904) : kRng2 [.fz (.int i), .fz (.int j)] = some (i, (j - i).toNat) := by unfold kRng2; simp only [int?_fz]; rw [if_pos h]
/-- a loop that only goes on -/
theorem forD_inv {g : D → Env → Option Env} {b : Env → Fl} {ds : List D} {env : Env} (I : Nat → Env → Prop) (h0 : I 0 env)
    (hs : ∀ i d e, ds[i]? = some d → I i e → ∃ e1 e2, g d e = some e1 ∧ (b e1 = .nx e2 ∨ b e1 = .ct e2) ∧ I (i + 1) e2) : ∃ e', forD g b ds env = .nx e' ∧ I ds.length e' := by
  suffices H : ∀ (n i : Nat) (e : Env), ds.length - i = n → i ≤ ds.length → I i e → ∃ e', forD g b (ds.drop i) e = .nx e' ∧ I ds.length e' by
    have := H ds.length 0 env (by simp) (Nat.zero_le _) h0
    simpa using this
  intro n
  induction n with
  | zero =>
    intro i e hn hi he
    have : i = ds.length := by omega
    subst this
    rw [List.drop_length]
    exact ⟨e, rfl, he⟩
  | succ n ih =>
    intro i e hn hi he
    have hlt : i < ds.length := by omega
    obtain ⟨e1, e2, g1, b1, i2⟩ := hs i ds[i] e (List.getElem?_eq_getElem hlt) he
    obtain ⟨e', f1, f2⟩ := ih (i + 1) e2 (by omega) hlt i2
    refine ⟨e', ?_, f2⟩
    rw [List.drop_eq_getElem_cons hlt]
    unfold forD
    simp only [g1]
    rcases b1 with b1 | b1 <;> simp only [b1] <;> exact f1
/-- a loop that may leave the def, or raise -/
theorem forD_find {g : D → Env → Option Env} {b : Env → Fl} {ds : List D} {env : Env} (I : Nat → Env → Prop) (Post : Fl → Prop) (h0 : I 0 env)
    (hs : ∀ i d e, ds[i]? = some d → I i e → ∃ e1, g d e = some e1 ∧ ((∃ e2, (b e1 = .nx e2 ∨ b e1 = .ct e2) ∧ I (i + 1) e2) ∨ (∃ r e2, b e1 = .rt r e2 ∧ Post (.rt r e2)) ∨ (∃ x e2, b e1 = .rs x e2 ∧ Post (.rs x e2)))) :
    (∃ e', forD g b ds env = .nx e' ∧ I ds.length e') ∨ Post (forD g b ds env) := by
  suffices H : ∀ (n i : Nat) (e : Env), ds.length - i = n → i ≤ ds.length → I i e → (∃ e', forD g b (ds.drop i) e = .nx e' ∧ I ds.length e') ∨ Post (forD g b (ds.drop i) e) by
    have := H ds.length 0 env (by simp) (Nat.zero_le _) h0
    simpa using this
  intro n
  induction n with
  | zero =>
    intro i e hn hi he
    have : i = ds.length := by omega
    subst this
    rw [List.drop_length]
    exact .inl ⟨e, rfl, he⟩
  | succ n ih =>
    intro i e hn hi he
    have hlt : i < ds.length := by omega
    obtain ⟨e1, g1, h⟩ := hs i ds[i] e (List.getElem?_eq_getElem hlt) he
    rw [List.drop_eq_getElem_cons hlt]
    unfold forD
    simp only [g1]
    rcases h with ⟨e2, b1, i2⟩ | ⟨r, e2, b1, p⟩ | ⟨x, e2, b1, p⟩
    · have := ih (i + 1) e2 (by omega) hlt i2
      rcases b1 with b1 | b1 <;> simp only [b1] <;> exact this
    · simp only [b1]; exact .inr p
    · simp only [b1]; exact .inr p
/-! whole defs -/
theorem runF_rt {np n : Nat} {m : Env → Fl} {args : List S} {r : R} {e : Env} (h1 : args.length = np) (h2 : np ≤ n) (hm : m (args ++ List.replicate (n - np) .un) = .rt r e) (hr : ∀ l o, r ≠ .bor l o) : runF np n m args = .ok r (outOf e) := by
  unfold runF
  rw [if_pos ⟨h1, h2⟩, hm]
  cases r with
  | bor l o => exact absurd rfl (hr l o)
  | fz d => rfl
  | tmp o => rfl
theorem runF_rs {np n : Nat} {m : Env → Fl} {args : List S} {x : Exc} {e : Env} (h1 : args.length = np) (h2 : np ≤ n) (hm : m (args ++ List.replicate (n - np) .un) = .rs x e) : runF np n m args = .rs x (outOf e) := by
  unfold runF
  rw [if_pos ⟨h1, h2⟩, hm]
theorem runF_nx {np n : Nat} {m : Env → Fl} {args : List S} {e : Env} (h1 : args.length = np) (h2 : np ≤ n) (hm : m (args ++ List.replicate (n - np) .un) = .nx e) : runF np n m args = .ok (.fz .non) (outOf e) := by
  unfold runF
  rw [if_pos ⟨h1, h2⟩, hm]
@[simp] theorem outOf_fz (d : D) (e : Env) : outOf (.fz d :: e) = none := id rfl
@[simp] theorem outOf_rd (d : O) (e : Env) : outOf (.rd d :: e) = none := id rfl
@[simp] theorem outOf_ow (d : O) (e : Env) : outOf (.ow d :: e) = none := id rfl
@[simp] theorem outOf_mu (d : O) (e : Env) : outOf (.mu d :: e) = some d := id rfl
/-! items -/
theorem atI_ok {α : Type} {ds : List α} {i : Int} {j : Nat} {d : α} (hi : i = (j : Int)) (h : ds[j]? = some d) : L2.atI ds i = some d := by rw [hi]; exact L2.atI_nat h
theorem kIx_ok {p : P} {ds : List D} {i : Int} {j : Nat} {d : D} (hp : p.seq? = some ds) (hi : i = (j : Int)) (h : ds[j]? = some d) : kIx p (.fz (.int i)) = some d := by
  unfold kIx
  simp only [int?_fz, hp]
  exact atI_ok hi h
theorem map_get {α β : Type} {f : α → β} {l : List α} {j : Nat} {a : α} (h : l[j]? = some a) : (l.map f)[j]? = some (f a) := by rw [List.getElem?_map, h]; rfl
@[simp] theorem kRng1_nat {n : Nat} (h : n ≤ 1000000) : kRng1 [.fz (.int (n : Int))] = some (0, n) := by
  rw [kRng1_eq, int?_fz, Option.bind_some, if_pos ⟨by omega, by omega⟩, Int.toNat_natCast]
theorem kRng1_int {i : Int} {n : Nat} (hi : i = (n : Int)) (h : n ≤ 1000000) : kRng1 [.fz (.int i)] = some (0, n) := by rw [hi, kRng1_nat h]
/-! comprehensions -/
theorem compD_fm {g : D → Env → Option Env} {tc : Env → Res Bool} {me : Env → Res P} {env : Env} {p : D → Bool} {f : D → D} : ∀ (ds acc : List D),
    (∀ d ∈ ds, ∃ e, g d env = some e ∧ tc e = .ok (p d) ∧ (p d = true → me e = .ok (.fz (f d)))) → compD g tc me env ds acc = .ok (acc ++ (ds.filter p).map f)
  | [], acc, _ => by simp [compD]
  | d :: ds, acc, h => by
    obtain ⟨e, h1, h2, h3⟩ := h d List.mem_cons_self
    unfold compD
    simp only [h1, h2]
    cases hp : p d with
    | false =>
      simp only
      rw [compD_fm ds acc fun x hx => h x (List.mem_cons_of_mem _ hx)]
      simp [hp]
    | true =>
      simp only [h3 hp]
      rw [compD_fm ds _ fun x hx => h x (List.mem_cons_of_mem _ hx)]
      simp [hp]
theorem mComp_fm {v : Nat} {tc : Env → Res Bool} {me : Env → Res P} {ds : List D} {env : Env} (p : D → Bool) (f : D → D) (hf : free? env v = true) (hl : ds.length ≤ 16777216)
    (h : ∀ d ∈ ds, ∃ e, gN v d (wipeE env [v]) = some e ∧ tc e = .ok (p d) ∧ (p d = true → me e = .ok (.fz (f d)))) : mComp v tc me ds env = .ok (.tmp (.lst ((ds.filter p).map f))) := by
  unfold mComp
  rw [if_pos ⟨hf, hl⟩, compD_fm ds [] h]
  simp
def lcK (it : P → Option (List D)) (r : Res P) (v : Nat) (tc : Env → Res Bool) (me : Env → Res P) (env : Env) : Res R := match r with
  | .ok pp => match it pp with
    | some ds => mComp v tc me ds env
    | none => .stuck
  | .rs x => .rs x
  | .stuck => .stuck
@[simp] theorem mLc_eq (it : P → Option (List D)) (v : Nat) (a : Env → Res P) (tc : Env → Res Bool) (me : Env → Res P) (env : Env) : mLc it v a tc me env = lcK it (a env) v tc me env := id rfl
@[simp] theorem lcK_it (ds : List D) (v : Nat) (tc : Env → Res Bool) (me : Env → Res P) (env : Env) : lcK P.it? (.ok (.fz (.lst ds))) v tc me env = mComp v tc me ds env := id rfl
@[simp] theorem lcK_amb (ds : List D) (v : Nat) (tc : Env → Res Bool) (me : Env → Res P) (env : Env) : lcK P.it? (.ok (.bor .amb (.lst ds))) v tc me env = mComp v tc me ds env := id rfl
@[simp] theorem lcK_tup (ds : List D) (v : Nat) (tc : Env → Res Bool) (me : Env → Res P) (env : Env) : lcK P.tup? (.ok (.fz (.tup ds))) v tc me env = mComp v tc me ds env := id rfl
def lcRK (r : Res (Int × Nat)) (v : Nat) (tc : Env → Res Bool) (me : Env → Res P) (env : Env) : Res R := match r with
  | .ok z => mComp v tc me (rngD z.1 z.2) env
  | .rs x => .rs x
  | .stuck => .stuck
@[simp] theorem mLcR_eq (k : List P → Option (Int × Nat)) (v : Nat) (a : Env → Res (List P)) (tc : Env → Res Bool) (me : Env → Res P) (env : Env) : mLcR k v a tc me env = lcRK (oneA k a env) v tc me env := id rfl
@[simp] theorem lcRK_ok (z : Int × Nat) (v : Nat) (tc : Env → Res Bool) (me : Env → Res P) (env : Env) : lcRK (.ok z) v tc me env = mComp v tc me (rngD z.1 z.2) env := id rfl
/-! in -/
theorem fvs_ints : ∀ ns : List Int, fvs (ns.map D.int) = some (ns.map V.int)
  | [] => rfl
  | n :: ns => by simp [fvs, D.fv, fvs_ints ns]
theorem inV_ints (i : Int) : ∀ ns : List Int, inV (.int i) (ns.map V.int) = decide (i ∈ ns)
  | [] => rfl
  | n :: ns => by
    have ih := inV_ints i ns
    unfold inV at ih ⊢
    simp only [List.map_cons, List.any_cons, ih]
    by_cases h : n = i
    · subst h; simp [eqV]
    · have h' : ¬ i = n := fun z => h z.symm
      simp [eqV, h, h']
theorem kIn_ints {p : P} {i : Int} {ns : List Int} (hp : p.seq? = some (ns.map D.int)) : kIn (.fz (.int i)) p = some (decide (i ∈ ns)) := by
  unfold kIn
  simp only [d?_fz, hp, D.fv, fvs_ints, inV_ints]
theorem kNi_ints {p : P} {i : Int} {ns : List Int} (hp : p.seq? = some (ns.map D.int)) : kNi (.fz (.int i)) p = some (!decide (i ∈ ns)) := by
  unfold kNi
  rw [kIn_ints hp]
  rfl
/-! == of lists of ints -/
theorem pds_ints : ∀ ns : List Int, pds (ns.map D.int) = some (ns.map PyData.int)
  | [] => rfl
  | n :: ns => by simp [pds, D.pd, pds_ints ns]
theorem eqvAll_ints : ∀ ns ms : List Int, PyData.eqvAll (ns.map PyData.int) (ms.map PyData.int) = decide (ns = ms)
  | [], [] => rfl
  | [], m :: ms => rfl
  | n :: ns, [] => rfl
  | n :: ns, m :: ms => by
    simp only [List.map_cons, PyData.eqvAll, PyData.eqv, eqvAll_ints ns ms]
    by_cases h : n = m
    · subst h; simp
    · simp [h]
theorem canLay_ints : ∀ ns : List Int, PyData.canLayAll0 (ns.map PyData.int) = true
  | [] => rfl
  | n :: ns => by simp [PyData.canLayAll0, PyData.canLay0, canLay_ints ns]
theorem depth_ints : ∀ ns : List Int, PyData.depthAll (ns.map PyData.int) ≤ 1
  | [] => by simp [PyData.depthAll]
  | n :: ns => by
    have := depth_ints ns
    simp only [List.map_cons, PyData.depthAll, PyData.depth]
    omega
theorem shaped_ints (ns : List Int) : SeqAt.shaped (.list (ns.map PyData.int)) = true := by
  have h1 : PyData.canLay0 (.list (ns.map PyData.int)) = true := by rw [PyData.canLay0]; exact canLay_ints ns
  have h2 : PyData.depth (.list (ns.map PyData.int)) ≤ 64 := by
    rw [PyData.depth]
    have := depth_ints ns
    omega
  unfold SeqAt.shaped
  rw [h1, Bool.true_and]
  exact decide_eq_true h2
def P.ints (p : P) (ns : List Int) : Prop := p.pd = some (.list (ns.map PyData.int))
theorem P.ints_fz (ns : List Int) : P.ints (.fz (.lst (ns.map D.int))) ns := by simp [P.ints, P.pd, D.pd, pds_ints]
theorem P.ints_bor (l : Lab) (ns : List Int) : P.ints (.bor l (.lst (ns.map D.int))) ns := by simp [P.ints, P.pd, D.pd, pds_ints]
theorem kEq_ints {p q : P} {ns ms : List Int} (hp : p.ints ns) (hq : q.ints ms) : kEq p q = some (decide (ns = ms)) := by
  unfold P.ints at hp hq
  unfold kEq
  simp only [hp, hq]
  rw [if_pos ⟨shaped_ints _, shaped_ints _⟩]
  simp only [PyData.eqv, eqvAll_ints]
theorem kNe_ints {p q : P} {ns ms : List Int} (hp : p.ints ns) (hq : q.ints ms) : kNe p q = some (!decide (ns = ms)) := by
  unfold kNe; rw [kEq_ints hp hq]; rfl
@[simp] theorem kEq_i (i j : Int) : kEq (.fz (.int i)) (.fz (.int j)) = some (i == j) := id rfl
@[simp] theorem kNe_i (i j : Int) : kNe (.fz (.int i)) (.fz (.int j)) = some (!(i == j)) := id rfl
/-! calls whose answers are new -/
@[simp] theorem mCallN_eq (f : List S → CallR) (a : Env → Res (List P)) (env : Env) : mCallN f a env = (a env).bind fun ps => match flats ps with
  | some ds => mRunN (f (ds.map S.fz))
  | none => .stuck := id rfl
@[simp] theorem mIxN_eq (a : Env → Res D) (b : Env → Res P) (env : Env) : mIxN a b env = (a env).bind fun x => (b env).bind fun y => .of (kIxN x y) := id rfl
@[simp] theorem mOwnN_eq (a : Env → Res D) (env : Env) : mOwnN a env = (a env).bind fun d => match d with
  | .lst ds => if ds.all scal = true then .ok (.tmp (.lst ds)) else .stuck
  | _ => .stuck := id rfl
@[simp] theorem mRunN_tmp (o : O) (x : Option O) : mRunN (.ok (.tmp o) x) = .ok o.cold := id rfl
@[simp] theorem mRunN_fz (d : D) (x : Option O) : mRunN (.ok (.fz d) x) = .ok d := id rfl
theorem scal_ints (ns : List Int) : (ns.map D.int).all scal = true := by
  rw [List.all_eq_true]
  intro d hd
  obtain ⟨n, _, rfl⟩ := List.mem_map.mp hd
  rfl
/-! slices -/
theorem sIx_lo {n k : Nat} {d : Nat} (h : k ≤ n) : HT.sIx n d (some (k : Int)) = k := by rw [HT.sIx_nat]; omega
theorem cut_to {ds : List D} {k : Nat} (h : k ≤ ds.length) : cutD ds none (some (k : Int)) = ds.take k := by
  unfold cutD
  rw [sIx_lo h]
  simp [HT.sIx]
theorem cut_le {ds : List D} {k : Nat} : (cutD ds none (some (k : Int))).length ≤ k := by
  unfold cutD
  rw [HT.sIx_nat]
  simp [HT.sIx]
  omega
theorem cut_from_to {ds : List D} {j k : Nat} (h : k ≤ ds.length) (hj : j ≤ k) : cutD ds (some (j : Int)) (some (k : Int)) = (ds.drop j).take (k - j) := by
  unfold cutD
  rw [sIx_lo h, sIx_lo (by omega)]
theorem kSlL_lst (ds : List D) (lo hi : Option Int) : kSlL (.fz (.lst ds)) lo hi = some (cutD ds lo hi) := rfl
theorem kSlL_bor (l : Lab) (ds : List D) (lo hi : Option Int) : kSlL (.bor l (.lst ds)) lo hi = some (cutD ds lo hi) := rfl
theorem kSlL_scr (ns : List Int) (lo hi : Option Int) : kSlL (.fz (.scr ns)) lo hi = some (cutD (ns.map D.int) lo hi) := rfl
theorem cutD_mem {ds : List D} {lo hi : Option Int} {d : D} (h : d ∈ cutD ds lo hi) : d ∈ ds := List.mem_of_mem_drop (List.mem_of_mem_take h)
end RC

set_option Elab.async false
set_option linter.all false
set_option maxRecDepth 100000
set_option maxHeartbeats 1000000
/-! T1: typed programs, and mirrors that answer as they say. -/
namespace RC
open PySem PySem.Spec PyProof.Rows L2

/-! ### slots forgotten -/
section
variable {X : Cx} {Z : Zc} {W : WX}
def sWp (ws : List Nat) (m : Env → Fl) : Env → Fl := fun env => if ws.all (fun i => free? env i) = true then m (wipeE env ws) else .stuck
theorem Rel.unslot {om : Om} {σ : L2.St} {H : Hp} {env : Env} (rl : Rel Z om σ H env) {i : Nat} (h : free? env i = true) : Rel Z om σ H (env.set i .un) := by
  refine ⟨rl.tr, rl.nt, rl.kp, by simp [rl.ln], fun k s hk => ?_, fun o ho => ?_⟩
  · by_cases e : i = k
    · subst e
      rw [List.getElem?_set] at hk
      split at hk
      · split at hk
        · cases hk; trivial
        · cases hk
      · rename_i z; exact absurd rfl z
    · rw [List.getElem?_set_ne e] at hk; exact rl.sl k s hk
  · by_cases e : i = 0
    · subst e
      rw [List.getElem?_set] at ho
      split at ho
      · split at ho <;> cases ho
      · rename_i z; exact absurd rfl z
    · rw [List.getElem?_set_ne e] at ho; exact rl.mu o ho
theorem Rel.wipeS {om : Om} {σ : L2.St} {H : Hp} : ∀ {ws : List Nat} {env : Env}, Rel Z om σ H env → ws.all (fun i => free? env i) = true → Rel Z om σ H (wipeE env ws)
  | [], env, rl, _ => rl
  | v :: vs, env, rl, h => by
    rw [List.all_cons, Bool.and_eq_true] at h
    have ih := Rel.wipeS rl h.2
    show Rel Z om σ H ((wipeE env vs).set v .un)
    refine ih.unslot ?_
    have : ∀ (ws : List Nat) (e : Env) (v : Nat), free? e v = true → free? (wipeE e ws) v = true := by
      intro ws
      induction ws with
      | nil => intro e v hv; exact hv
      | cons w ws ih2 =>
        intro e v hv
        show free? ((wipeE e ws).set w .un) v = true
        have h2 := ih2 e v hv
        rw [free?_eq] at h2 ⊢
        by_cases z : w = v
        · subst z
          rw [List.getElem?_set]
          cases q : (wipeE e ws)[w]? with
          | none => rw [q] at h2; cases h2
          | some s =>
            have := (List.getElem?_eq_some_iff.mp q).1
            simp [this]
        · rw [List.getElem?_set_ne z]; exact h2
    exact this vs env v h.1
theorem ss_wp (ws : List Nat) {body : List Stmt} {m : Env → Fl} (h : PSs X body (tS Z W m)) : PSs X body (tS Z W (sWp ws m)) := h.pimp fun D σ H ⟨om, env, rl, q⟩ => by
  unfold sWp at q
  split at q
  · rename_i hf
    exact ⟨om, wipeE env ws, rl.wipeS hf, q⟩
  · exact q.elim
end

/-! ### how operands and slots read -/
def P.cd : P → D
  | .fz d => d
  | .bor _ o => o.cold
def Rd (s : S) (d : D) : Prop := s = .fz d ∨ ∃ o, s = .rd o ∧ o.cold = d
variable {α β γ σ τ ρ ε κ : Type}
/-- a mirror's part answers as a typed one -/
def J (m : Env → Res γ) (E : Env) (t : Res α) (C : α → γ → Prop) : Prop := match t with
  | .ok a => ∃ p, m E = .ok p ∧ C a p
  | .rs x => m E = .rs x
  | .stuck => True
def qF (e : α → D) : α → P → Prop := fun a p => p = .fz (e a)
def qA (e : α → D) : α → P → Prop := fun a p => p = .fz (e a) ∨ ∃ o, p = .bor .amb o ∧ o.cold = e a
def qC (e : α → D) : α → P → Prop := fun a p => p.cd = e a
def qT (eo : α → O) : α → R → Prop := fun a r => r = .tmp (eo a)
def qN (e : α → D) : α → R → Prop := fun a r => r.op = .fz (e a)
def qB : α → α → Prop := fun a b => b = a
theorem FA {e : α → D} {a : α} {p : P} (h : qF e a p) : qA e a p := .inl h
theorem FC {e : α → D} {a : α} {p : P} (h : qF e a p) : qC e a p := by rw [show p = _ from h]; rfl
theorem AC {e : α → D} {a : α} {p : P} (h : qA e a p) : qC e a p := by
  rcases h with rfl | ⟨o, rfl, h⟩
  · rfl
  · exact h
theorem J.imp {m : Env → Res γ} {E : Env} {t : Res α} {C C' : α → γ → Prop} (h : J m E t C) (i : ∀ a p, C a p → C' a p) : J m E t C' := by
  unfold J at h ⊢
  cases t with
  | ok a => obtain ⟨p, h1, h2⟩ := h; exact ⟨p, h1, i a p h2⟩
  | rs x => exact h
  | stuck => trivial
theorem J.FA {m : Env → Res P} {E : Env} {t : Res α} {e : α → D} (h : J m E t (qF e)) : J m E t (qA e) := h.imp fun _ _ => RC.FA
theorem J.FC {m : Env → Res P} {E : Env} {t : Res α} {e : α → D} (h : J m E t (qF e)) : J m E t (qC e) := h.imp fun _ _ => RC.FC
theorem J.AC {m : Env → Res P} {E : Env} {t : Res α} {e : α → D} (h : J m E t (qA e)) : J m E t (qC e) := h.imp fun _ _ => RC.AC
/-- data that is never owned -/
def D.still : D → Bool
  | .lst _ => false
  | .dct _ => false
  | .obj _ _ => false
  | _ => true
theorem still_cd {p : P} {d : D} (h : p.cd = d) (hs : d.still = true) : p = .fz d := by
  cases p with
  | fz d' => rw [show d' = d from h]
  | bor l o =>
    have h : o.cold = d := h
    subst h
    cases o <;> cases hs
theorem J.CF {m : Env → Res P} {E : Env} {t : Res α} {e : α → D} (h : J m E t (qC e)) (hs : ∀ a, (e a).still = true := by exact fun _ => rfl) : J m E t (qF e) := h.imp fun a p q => still_cd q (hs a)
theorem J.TN {m : Env → Res R} {E : Env} {t : Res α} {eo : α → O} {e : α → D} (h : J m E t (qT eo)) (hc : ∀ a, (eo a).cold = e a := by exact fun _ => rfl) : J m E t (qN e) := h.imp fun a r q => by
  rw [show r = _ from q]
  show P.fz (eo a).cold = _
  rw [hc]
theorem J.bind {m : Env → Res γ} {E : Env} {t : Res α} {C : α → γ → Prop} {k : γ → Env → Res τ} {f : α → Res κ} {C' : κ → τ → Prop} (h : J m E t C)
    (hk : ∀ a p, C a p → J (k p) E (f a) C') : J (fun env => (m env).bind fun p => k p env) E (t.bind f) C' := by
  unfold J at h
  cases t with
  | ok a =>
    obtain ⟨p, h1, h2⟩ := h
    have := hk a p h2
    show J _ E (f a) C'
    unfold J at this ⊢
    simpa [h1] using this
  | rs x => show (m E).bind (fun p => k p E) = _; rw [show m E = _ from h]; rfl
  | stuck => trivial
theorem J.map {m : Env → Res γ} {E : Env} {t : Res α} {C : α → γ → Prop} {k : γ → τ} {f : α → κ} {C' : κ → τ → Prop} (h : J m E t C)
    (hk : ∀ a p, C a p → C' (f a) (k p)) : J (fun env => (m env).map k) E (t.map f) C' := by
  unfold J at h
  cases t with
  | ok a =>
    obtain ⟨p, h1, h2⟩ := h
    exact ⟨k p, by simp [h1], hk a p h2⟩
  | rs x => show (m E).map k = _; rw [show m E = _ from h]; rfl
  | stuck => trivial
theorem J.of {E : Env} {o : Option γ} {t : Option α} {C : α → γ → Prop} (h : ∀ a, t = some a → ∃ p, o = some p ∧ C a p) : J (fun _ => Res.of o) E (Res.of t) C := by
  cases t with
  | none => trivial
  | some a => obtain ⟨p, h1, h2⟩ := h a rfl; exact ⟨p, by simp [h1], h2⟩
theorem J.ok {E : Env} {p : γ} {a : α} {C : α → γ → Prop} (h : C a p) : J (fun _ => Res.ok p) E (Res.ok a) C := ⟨p, rfl, h⟩
theorem J.mapl {m : Env → Res γ} {E : Env} {t : Res α} {f : α → κ} {C : α → γ → Prop} {C' : κ → γ → Prop} (h : J m E t C) (i : ∀ a p, C a p → C' (f a) p) : J m E (t.map f) C' := by
  unfold J at h
  cases t with
  | ok a => obtain ⟨p, h1, h2⟩ := h; exact ⟨p, h1, i a p h2⟩
  | rs x => exact h
  | stuck => trivial
theorem J.bindl {m : Env → Res γ} {E : Env} {t : Res α} {f : α → Option κ} {C : α → γ → Prop} {C' : κ → γ → Prop} (h : J m E t C) (i : ∀ a p b, C a p → f a = some b → C' b p) : J m E (t.bind fun a => Res.of (f a)) C' := by
  unfold J at h
  cases t with
  | ok a =>
    obtain ⟨p, h1, h2⟩ := h
    show J m E (Res.of (f a)) C'
    cases hf : f a with
    | none => trivial
    | some b => exact ⟨p, h1, i a p b h2 hf⟩
  | rs x => exact h
  | stuck => trivial

/-! ### encodings -/
def eL (e : α → D) (xs : List α) : D := .lst (xs.map e)
def oL (e : α → D) (xs : List α) : O := .lst (xs.map e)
def eS (e : α → D) (xs : List α) : D := .tup (xs.map e)
def eT (er : α → List D) (a : α) : D := .tup (er a)
def eP (e : α → D) (er : β → List D) : α × β → List D := fun x => e x.1 :: er x.2
def eU : Unit → List D := fun _ => []
def eN : Unit → D := fun _ => .non
def eM (e : α → D) : Option α → D
  | none => .non
  | some a => e a
def eD (d : D) : D := d
@[simp] theorem oL_cold (e : α → D) (xs : List α) : (oL e xs).cold = eL e xs := id rfl

/-! ### names, constants -/
section
variable {E : Env} {i : Nat} {e : α → D} {a : α}
theorem j_fz (h : E[i]? = some (.fz (e a))) : J (mVar i) E (.ok a) (qF e) := ⟨_, by unfold mVar; rw [h], rfl⟩
theorem j_rd {s : S} (r : Rd s (e a)) (h : E[i]? = some s) : J (mVar i) E (.ok a) (qA e) := by
  rcases r with rfl | ⟨o, rfl, ho⟩
  · exact ⟨_, by unfold mVar; rw [h], .inl rfl⟩
  · exact ⟨_, by unfold mVar; rw [h], .inr ⟨o, rfl, ho⟩⟩
theorem j_ow {eo : α → O} (h : E[i]? = some (.ow (eo a))) (hc : (eo a).cold = e a := by exact rfl) : J (mVar i) E (.ok a) (qC e) := ⟨.bor (.slot i) (eo a), by unfold mVar; rw [h], hc⟩
theorem j_mu {eo : α → O} (h : E[i]? = some (.mu (eo a))) (hc : (eo a).cold = e a := by exact rfl) : J (mVar i) E (.ok a) (qC e) := ⟨.bor (.slot i) (eo a), by unfold mVar; rw [h], hc⟩
theorem j_c {d : D} (h : e a = d := by exact rfl) : J (mC d) E (.ok a) (qF e) := ⟨_, rfl, by show P.fz d = _; rw [h]⟩
theorem j_int {n : Int} : J (mC (.int n)) E (.ok n) (qF D.int) := j_c
theorem j_bl {b : Bool} : J (mC (.bl b)) E (.ok b) (qF D.bl) := j_c
theorem j_str {x : Str} : J (mC (.str x)) E (.ok x) (qF D.str) := j_c
theorem j_non : J (mC .non) E (.ok ()) (qF eN) := j_c
end
section
variable {E : Env} {ma mb mc : Env → Res P} {ta : Res α} {tb : Res β}

theorem j_op {m : Env → Res R} {e : α → D} (h : J m E ta (qN e)) : J (mOp m) E ta (qF e) := by
  unfold J at h ⊢
  cases ta with
  | ok a => obtain ⟨r, h1, h2⟩ := h; exact ⟨r.op, by unfold mOp; rw [h1]; rfl, h2⟩
  | rs x => show mOp m E = _; unfold mOp; rw [show m E = _ from h]; rfl
  | stuck => trivial
theorem j_opT {m : Env → Res R} {eo : α → O} {e : α → D} (h : J m E ta (qT eo)) (hc : ∀ a, (eo a).cold = e a := by exact fun _ => rfl) : J (mOp m) E ta (qF e) := j_op (h.TN hc)
theorem j_up {e : α → D} (h : J ma E ta (qF e)) : J (mUp ma) E ta (qN e) := by
  unfold J at h ⊢
  cases ta with
  | ok a => obtain ⟨r, h1, h2⟩ := h; exact ⟨.fz (e a), by unfold mUp; rw [h1, show r = _ from h2]; rfl, rfl⟩
  | rs x => show mUp ma E = _; unfold mUp; rw [show ma E = _ from h]; rfl
  | stuck => trivial

/-! ### operators -/
def t2 (f : α → β → Res κ) (ta : Res α) (tb : Res β) : Res κ := ta.bind fun a => tb.bind fun b => f a b
@[simp] theorem t2_ok (f : α → β → Res κ) (a : α) (b : β) : t2 f (.ok a) (.ok b) = f a b := id rfl
theorem j_m2 {k : P → P → Option γ} {f : α → β → Option κ} {Ca : α → P → Prop} {Cb : β → P → Prop} {C : κ → γ → Prop} (ha : J ma E ta Ca) (hb : J mb E tb Cb)
    (h : ∀ a b p q z, Ca a p → Cb b q → f a b = some z → ∃ w, k p q = some w ∧ C z w) : J (m2 k ma mb) E (t2 (fun a b => Res.of (f a b)) ta tb) C :=
  ha.bind fun a p hp => hb.bind fun b q hq => J.of fun z hz => h a b p q z hp hq hz
theorem j_one {k : P → Option γ} {f : α → Option κ} {Ca : α → P → Prop} {C : κ → γ → Prop} (ha : J ma E ta Ca)
    (h : ∀ a p z, Ca a p → f a = some z → ∃ w, k p = some w ∧ C z w) : J (one1 k ma) E (ta.bind fun a => Res.of (f a)) C :=
  ha.bind fun a p hp => J.of fun z hz => h a p z hp hz
/-- two ints -/
def tI (f : Int → Int → Option κ) (ta tb : Res Int) : Res κ := t2 (fun a b => Res.of (f a b)) ta tb
@[simp] theorem tI_ok (f : Int → Int → Option κ) (a b : Int) : tI f (.ok a) (.ok b) = Res.of (f a b) := id rfl
theorem j_mapl' {m : Env → Res γ} {k : γ → τ} {t : Res α} {C : α → γ → Prop} {C' : α → τ → Prop} (h : J m E t C) (hk : ∀ a p, C a p → C' a (k p)) : J (fun env => (m env).map k) E t C' := by
  unfold J at h ⊢
  cases t with
  | ok a => obtain ⟨p, h1, h2⟩ := h; exact ⟨k p, by simp [h1], hk a p h2⟩
  | rs x => show (m E).map k = _; rw [show m E = _ from h]; rfl
  | stuck => trivial
theorem j_I {ta tb : Res Int} {f : Int → Int → Option Int} (ha : J ma E ta (qF D.int)) (hb : J mb E tb (qF D.int)) : J (mI f ma mb) E (tI f ta tb) (qF D.int) := by
  show J (fun env => (m2 (kI f) ma mb env).map fun z => P.fz (.int z)) E _ _
  refine j_mapl' (C := qB) (j_m2 (k := kI f) (f := f) ha hb fun a b p q z hp hq hz => ⟨z, by rw [show p = _ from hp, show q = _ from hq]; exact hz, rfl⟩) fun a p q => by rw [show p = a from q]; rfl
def iLt (i j : Int) : Option Bool := some (decide (i < j))
def iLe (i j : Int) : Option Bool := some (decide (i ≤ j))
def iGt (i j : Int) : Option Bool := some (decide (j < i))
def iGe (i j : Int) : Option Bool := some (decide (j ≤ i))
@[simp] theorem iLt_eq (i j : Int) : iLt i j = some (decide (i < j)) := id rfl
@[simp] theorem iLe_eq (i j : Int) : iLe i j = some (decide (i ≤ j)) := id rfl
@[simp] theorem iGt_eq (i j : Int) : iGt i j = some (decide (j < i)) := id rfl
@[simp] theorem iGe_eq (i j : Int) : iGe i j = some (decide (j ≤ i)) := id rfl
theorem j_kI {ta tb : Res Int} {f : Int → Int → Option Bool} {k : P → P → Option Bool} (hk : k = kI f) (ha : J ma E ta (qF D.int)) (hb : J mb E tb (qF D.int)) : J (m2 k ma mb) E (tI f ta tb) qB :=
  j_m2 (f := f) ha hb fun a b p q z hp hq hz => ⟨z, by rw [hk, show p = _ from hp, show q = _ from hq]; exact hz, rfl⟩
theorem j_lt {ta tb : Res Int} (ha : J ma E ta (qF D.int)) (hb : J mb E tb (qF D.int)) : J (m2 kLt ma mb) E (tI iLt ta tb) qB := j_kI rfl ha hb
theorem j_le {ta tb : Res Int} (ha : J ma E ta (qF D.int)) (hb : J mb E tb (qF D.int)) : J (m2 kLe ma mb) E (tI iLe ta tb) qB := j_kI rfl ha hb
theorem j_gt {ta tb : Res Int} (ha : J ma E ta (qF D.int)) (hb : J mb E tb (qF D.int)) : J (m2 kGt ma mb) E (tI iGt ta tb) qB := j_kI rfl ha hb
theorem j_ge {ta tb : Res Int} (ha : J ma E ta (qF D.int)) (hb : J mb E tb (qF D.int)) : J (m2 kGe ma mb) E (tI iGe ta tb) qB := j_kI rfl ha hb
theorem j_vb {m : Env → Res Bool} {t : Res Bool} (h : J m E t qB) : J (mBl m) E t (qF D.bl) := j_mapl' h fun a p q => by rw [show p = a from q]; rfl
theorem j_neg {ta : Res Int} (ha : J ma E ta (qF D.int)) : J (mNeg ma) E (ta.map fun a => -a) (qF D.int) := by
  unfold J at ha ⊢
  cases ta with
  | ok a => obtain ⟨p, h1, h2⟩ := ha; exact ⟨.fz (.int (-a)), by unfold mNeg one1; rw [h1, show p = _ from h2]; rfl, rfl⟩
  | rs x => show mNeg ma E = _; unfold mNeg one1; rw [show ma E = _ from ha]; rfl
  | stuck => trivial
/-! == and in, by the data -/
theorem pd_cd {p : P} {x : PyData} (h : (P.fz p.cd).pd = some x) : p.pd = some x := by
  cases p with
  | fz d => exact h
  | bor l o =>
    cases o with
    | lst ds => exact h
    | dct _ => simp [P.cd, O.cold, P.pd, D.pd] at h
    | obj _ _ => simp [P.cd, O.cold, P.pd, D.pd] at h
theorem kEq_cd {p q : P} {b : Bool} (h : kEq (.fz p.cd) (.fz q.cd) = some b) : kEq p q = some b := by
  unfold kEq at h ⊢
  cases hp : (P.fz p.cd).pd with
  | none => rw [hp] at h; cases h
  | some x =>
    cases hq : (P.fz q.cd).pd with
    | none => rw [hp, hq] at h; cases h
    | some y => rw [hp, hq] at h; rw [pd_cd hp, pd_cd hq]; exact h
def dEq (x y : D) : Option Bool := kEq (.fz x) (.fz y)
def dNe (x y : D) : Option Bool := kNe (.fz x) (.fz y)
def tD (f : D → D → Option κ) (e : α → D) (e' : β → D) (ta : Res α) (tb : Res β) : Res κ := t2 (fun a b => Res.of (f (e a) (e' b))) ta tb
@[simp] theorem tD_ok (f : D → D → Option κ) (e : α → D) (e' : β → D) (a : α) (b : β) : tD f e e' (.ok a) (.ok b) = Res.of (f (e a) (e' b)) := id rfl
theorem j_eq {e : α → D} {e' : β → D} (ha : J ma E ta (qC e)) (hb : J mb E tb (qC e')) : J (m2 kEq ma mb) E (tD dEq e e' ta tb) qB :=
  j_m2 (f := fun a b => dEq (e a) (e' b)) ha hb fun a b p q z hp hq hz => ⟨z, kEq_cd (by rw [show p.cd = _ from hp, show q.cd = _ from hq]; exact hz), rfl⟩
theorem j_ne {e : α → D} {e' : β → D} (ha : J ma E ta (qC e)) (hb : J mb E tb (qC e')) : J (m2 kNe ma mb) E (tD dNe e e' ta tb) qB :=
  j_m2 (f := fun a b => dNe (e a) (e' b)) ha hb fun a b p q z hp hq hz => ⟨z, by
    have hz : kNe (.fz (e a)) (.fz (e' b)) = some z := hz
    unfold kNe at hz ⊢
    cases hk : kEq (.fz (e a)) (.fz (e' b)) with
    | none => rw [hk] at hz; cases hz
    | some w => rw [kEq_cd (b := w) (by rw [show p.cd = _ from hp, show q.cd = _ from hq]; exact hk)]; rw [hk] at hz; exact hz, rfl⟩
theorem lst_cd {p : P} {ds : List D} (h : p.cd = .lst ds) : p.lst? = some ds := by
  cases p with
  | fz d => rw [show d = _ from h]; rfl
  | bor l o =>
    cases o with
    | lst xs => have h : D.lst xs = .lst ds := h; cases h; rfl
    | dct _ => cases h
    | obj _ _ => cases h
theorem tup_cd {p : P} {ds : List D} (h : p.cd = .tup ds) : p = .fz (.tup ds) := still_cd h rfl
theorem seq_cd {p : P} {ds : List D} (h : (P.fz p.cd).seq? = some ds) : p.seq? = some ds := by
  cases p with
  | fz d => exact h
  | bor l o =>
    cases o with
    | lst xs => exact h
    | dct _ => cases h
    | obj _ _ => cases h
def dIn (x y : D) : Option Bool := kIn (.fz x) (.fz y)
def dNi (x y : D) : Option Bool := kNi (.fz x) (.fz y)
theorem kIn_cd {x : D} {q : P} {b : Bool} (h : kIn (.fz x) (.fz q.cd) = some b) : kIn (.fz x) q = some b := by
  obtain ⟨d, ds, v, vs, h1, h2, h3, h4, h5⟩ := kIn_some h
  cases h1
  unfold kIn
  rw [show (P.fz x).d? = some x from rfl, seq_cd h2]
  simp only [h3, h4, h5]
theorem j_in {e : α → D} {e' : β → D} (ha : J ma E ta (qF e)) (hb : J mb E tb (qC e')) : J (m2 kIn ma mb) E (tD dIn e e' ta tb) qB :=
  j_m2 (f := fun a b => dIn (e a) (e' b)) ha hb fun a b p q z hp hq hz => ⟨z, by
    rw [show p = _ from hp]
    exact kIn_cd (by rw [show q.cd = _ from hq]; exact hz), rfl⟩
theorem j_ni {e : α → D} {e' : β → D} (ha : J ma E ta (qF e)) (hb : J mb E tb (qC e')) : J (m2 kNi ma mb) E (tD dNi e e' ta tb) qB :=
  j_m2 (f := fun a b => dNi (e a) (e' b)) ha hb fun a b p q z hp hq hz => ⟨z, by
    rw [show p = _ from hp]
    have hz : kNi (.fz (e a)) (.fz (e' b)) = some z := hz
    have := kNi_some hz
    unfold kNi
    rw [kIn_cd (q := q) (by rw [show q.cd = _ from hq]; exact this)]
    simp, rfl⟩
/-! None -/
def dNon (d : D) : Bool := match d with
  | .non => true
  | _ => false
theorem isN_cd (p : P) : p.isN = some (dNon p.cd) := by
  cases p with
  | fz d => cases d <;> rfl
  | bor l o => cases o <;> rfl
theorem j_isN {e : α → D} (ha : J ma E ta (qC e)) : J (one1 P.isN ma) E (ta.map fun a => dNon (e a)) qB := by
  have := j_one (k := P.isN) (f := fun a => some (dNon (e a))) (C := qB) ha fun a p z hp hz => ⟨dNon p.cd, isN_cd p, by rw [show p.cd = _ from hp]; cases hz; rfl⟩
  have e : (ta.bind fun a => Res.of (some (dNon (e a)))) = ta.map fun a => dNon (e a) := by cases ta <;> rfl
  rw [e] at this; exact this
theorem j_nonN {e : α → D} (ha : J ma E ta (qC e)) : J (one1 (fun p => p.isN.map Bool.not) ma) E (ta.map fun a => !dNon (e a)) qB := by
  have := j_one (k := fun p => p.isN.map Bool.not) (f := fun a => some (!dNon (e a))) (C := qB) ha fun a p z hp hz => ⟨!dNon p.cd, by rw [isN_cd p]; rfl, by rw [show p.cd = _ from hp]; cases hz; rfl⟩
  have e : (ta.bind fun a => Res.of (some (!dNon (e a)))) = ta.map fun a => !dNon (e a) := by cases ta <;> rfl
  rw [e] at this; exact this
/-! and, or, not, if -/
def tAnd (a b : Res Bool) : Res Bool := a.bind fun x => if x = true then b else .ok false
def tOr (a b : Res Bool) : Res Bool := a.bind fun x => if x = true then .ok true else b
def tNot (a : Res Bool) : Res Bool := a.map Bool.not
@[simp] theorem tAnd_f (b : Res Bool) : tAnd (.ok false) b = .ok false := id rfl
@[simp] theorem tAnd_t (b : Res Bool) : tAnd (.ok true) b = b := id rfl
@[simp] theorem tOr_f (b : Res Bool) : tOr (.ok false) b = b := id rfl
@[simp] theorem tOr_t (b : Res Bool) : tOr (.ok true) b = .ok true := id rfl
@[simp] theorem tAnd_ok (a b : Bool) : tAnd (.ok a) (.ok b) = .ok (a && b) := by cases a <;> rfl
@[simp] theorem tOr_ok (a b : Bool) : tOr (.ok a) (.ok b) = .ok (a || b) := by cases a <;> rfl
@[simp] theorem tNot_ok (a : Bool) : tNot (.ok a) = .ok (!a) := id rfl
section
variable {xa xb xc : Env → Res Bool} {sa sb sc : Res Bool}
theorem jb_and (ha : J xa E sa qB) (hb : J xb E sb qB) : J (bAnd xa xb) E (tAnd sa sb) qB :=
  ha.bind fun a p hp => by
    have hp : p = a := hp
    subst hp
    cases p with
    | true => exact hb
    | false => exact ⟨false, rfl, rfl⟩
theorem jb_or (ha : J xa E sa qB) (hb : J xb E sb qB) : J (bOr xa xb) E (tOr sa sb) qB :=
  ha.bind fun a p hp => by
    have hp : p = a := hp
    subst hp
    cases p with
    | true => exact ⟨true, rfl, rfl⟩
    | false => exact hb
theorem jb_not (ha : J xa E sa qB) : J (bNot xa) E (tNot sa) qB := ha.map fun a p hp => by have hp : p = a := hp; subst hp; rfl
theorem j_bl? {ta : Res Bool} (ha : J ma E ta (qF D.bl)) : J (one1 P.bl? ma) E ta qB := by
  unfold J at ha ⊢
  cases ta with
  | ok a => obtain ⟨p, h1, h2⟩ := ha; exact ⟨a, by unfold one1; rw [h1, show p = _ from h2]; rfl, rfl⟩
  | rs x => show one1 P.bl? ma E = _; unfold one1; rw [show ma E = _ from ha]; rfl
  | stuck => trivial
theorem j_and {ta tb : Res Bool} (ha : J ma E ta (qF D.bl)) (hb : J mb E tb (qF D.bl)) : J (mAnd ma mb) E (tAnd ta tb) (qF D.bl) :=
  (j_bl? ha).bind fun a p hp => by
    have hp : p = a := hp
    subst hp
    cases p with
    | true => exact hb
    | false => exact ⟨_, rfl, rfl⟩
theorem j_or {ta tb : Res Bool} (ha : J ma E ta (qF D.bl)) (hb : J mb E tb (qF D.bl)) : J (mOr ma mb) E (tOr ta tb) (qF D.bl) :=
  (j_bl? ha).bind fun a p hp => by
    have hp : p = a := hp
    subst hp
    cases p with
    | true => exact ⟨_, rfl, rfl⟩
    | false => exact hb
theorem j_not {ta : Res Bool} (ha : J ma E ta (qF D.bl)) : J (mNot ma) E (tNot ta) (qF D.bl) := (j_bl? ha).map fun a p hp => by have hp : p = a := hp; subst hp; rfl
def tIfE (c : Res Bool) (a b : Res α) : Res α := c.bind fun x => if x = true then a else b
@[simp] theorem tIfE_ok (c : Bool) (a b : Res α) : tIfE (.ok c) a b = if c = true then a else b := id rfl
theorem j_if {ta tb : Res α} {C : α → P → Prop} (hc : J xc E sc qB) (ha : J ma E ta C) (hb : J mb E tb C) : J (mIf xc ma mb) E (tIfE sc ta tb) C :=
  hc.bind fun a p hp => by
    have hp : p = a := hp
    subst hp
    cases p with
    | true => exact ha
    | false => exact hb
end
end
end RC

set_option Elab.async false
set_option linter.all false
set_option maxRecDepth 100000
set_option maxHeartbeats 1000000
/-! T2: items, slices, displays, built-ins, calls, attributes, comprehensions. -/
namespace RC
open PySem PySem.Spec PyProof.Rows L2
variable {α β γ σ τ ρ ε κ : Type}
section
variable {E : Env} {ma mb mc : Env → Res P} {ta : Res α} {tb : Res β}
/-! items -/
theorem atI_map {f : α → β} {xs : List α} {i : Int} : L2.atI (xs.map f) i = (L2.atI xs i).map f := by
  unfold L2.atI
  rw [List.length_map]
  cases L2.ixN xs.length i with
  | none => rfl
  | some j => simp
def tIx (ta : Res (List α)) (tb : Res Int) : Res α := t2 (fun xs i => Res.of (L2.atI xs i)) ta tb
@[simp] theorem tIx_ok (xs : List α) (i : Int) : tIx (.ok xs) (.ok i) = Res.of (L2.atI xs i) := id rfl
theorem atI_in {xs : List α} {i : Int} {j : Nat} {a : α} (hi : i = (j : Int)) (h : xs[j]? = some a) : L2.atI xs i = some a := atI_ok hi h
theorem kIx_cd {p : P} {ds : List D} {i : Int} {d : D} (h : (P.fz p.cd).seq? = some ds) (ha : L2.atI ds i = some d) : kIx p (.fz (.int i)) = some d := by
  unfold kIx
  simp only [int?_fz, seq_cd h]
  exact ha
theorem j_ix0 {k : P → P → Option γ} {f : α → β → Option κ} {Ca : α → P → Prop} {Cb : β → P → Prop} {e : κ → D} (ha : J ma E ta Ca) (hb : J mb E tb Cb)
    (h : ∀ a b p q z, Ca a p → Cb b q → f a b = some z → kIx p q = some (e z)) : J (mIx ma mb) E (t2 (fun a b => Res.of (f a b)) ta tb) (qF e) := by
  show J (fun env => (m2 kIx ma mb env).map fun z => P.fz z) E _ _
  exact j_mapl' (C := fun z w => w = e z) (j_m2 (k := kIx) (f := f) ha hb fun a b p q z hp hq hz => ⟨e z, h a b p q z hp hq hz, rfl⟩) fun a p q => by rw [q]; rfl
theorem j_ixL {ta : Res (List α)} {tb : Res Int} {e : α → D} (ha : J ma E ta (qC (eL e))) (hb : J mb E tb (qF D.int)) : J (mIx ma mb) E (tIx ta tb) (qF e) :=
  j_ix0 (k := kIx) (f := fun xs i => L2.atI xs i) ha hb fun a b p q z hp hq hz => by
    rw [show q = _ from hq]
    exact kIx_cd (ds := a.map e) (by rw [show p.cd = _ from hp]; rfl) (by rw [atI_map, hz]; rfl)
theorem j_ixS {ta : Res (List α)} {tb : Res Int} {e : α → D} (ha : J ma E ta (qC (eS e))) (hb : J mb E tb (qF D.int)) : J (mIx ma mb) E (tIx ta tb) (qF e) :=
  j_ix0 (k := kIx) (f := fun xs i => L2.atI xs i) ha hb fun a b p q z hp hq hz => by
    rw [show q = _ from hq]
    exact kIx_cd (ds := a.map e) (by rw [show p.cd = _ from hp]; rfl) (by rw [atI_map, hz]; rfl)
/-- an item of a tuple of a known form, at a place that the text tells -/
theorem j_ixT {e : α → D} {e' : κ → D} (f : α → κ) (k : Int) (ha : J ma E ta (qC e)) (hb : ∀ E, mb E = .ok (.fz (.int k))) (h : ∀ a, kIx (.fz (e a)) (.fz (.int k)) = some (e' (f a)))
    (hs : ∀ a, (e a).still = true := by exact fun _ => rfl) : J (mIx ma mb) E (ta.map f) (qF e') := by
  have ha := ha.CF hs
  unfold J at ha ⊢
  cases ta with
  | ok a =>
    obtain ⟨p, h1, h2⟩ := ha
    exact ⟨.fz (e' (f a)), by unfold mIx m2; rw [h1, show p = _ from h2]; simp [hb, h], rfl⟩
  | rs x => show mIx ma mb E = _; unfold mIx m2; rw [show ma E = _ from ha]; rfl
  | stuck => trivial
/-- an item of data of no known form -/
def dIx (d : D) (i : Int) : Option D := kIx (.fz d) (.fz (.int i))
def tIxD (ta : Res D) (tb : Res Int) : Res D := t2 (fun d i => Res.of (dIx d i)) ta tb
@[simp] theorem tIxD_ok (d : D) (i : Int) : tIxD (.ok d) (.ok i) = Res.of (dIx d i) := id rfl
theorem j_ixD {ta : Res D} {tb : Res Int} (ha : J ma E ta (qC eD)) (hb : J mb E tb (qF D.int)) : J (mIx ma mb) E (tIxD ta tb) (qF eD) :=
  j_ix0 (k := kIx) (f := fun d i => dIx d i) ha hb fun a b p q z hp hq hz => by
    rw [show q = _ from hq]
    have hp : p.cd = a := hp
    have hz : kIx (.fz a) (.fz (.int b)) = some z := hz
    show kIx p (.fz (.int b)) = some z
    cases p with
    | fz d => rw [show d = a from hp]; exact hz
    | bor l o =>
      have hp : o.cold = a := hp
      subst hp
      cases o with
      | lst ds => exact hz
      | dct _ => simp [kIx, O.cold, P.seq?, P.lst?, P.tup?, P.str?] at hz
      | obj _ _ => simp [kIx, O.cold, P.seq?, P.lst?, P.tup?, P.str?] at hz
/-! data of no known form, read as of a known one; and the other way about -/
theorem j_upD {e : α → D} (ha : J ma E ta (qF e)) : J ma E (ta.map e) (qF eD) := ha.mapl fun a p h => h
theorem j_upDC {e : α → D} (ha : J ma E ta (qC e)) : J ma E (ta.map e) (qC eD) := ha.mapl fun a p h => h
def D.int? : D → Option Int
  | .int i => some i
  | _ => none
def D.str? : D → Option Str
  | .str i => some i
  | _ => none
def D.bl? : D → Option Bool
  | .bl i => some i
  | _ => none
def D.lst? : D → Option (List D)
  | .lst i => some i
  | _ => none
def D.tup? : D → Option (List D)
  | .tup i => some i
  | _ => none
@[simp] theorem D.int?_int (i : Int) : (D.int i).int? = some i := id rfl
@[simp] theorem D.str?_str (i : Str) : (D.str i).str? = some i := id rfl
@[simp] theorem D.bl?_bl (i : Bool) : (D.bl i).bl? = some i := id rfl
@[simp] theorem D.lst?_lst (i : List D) : (D.lst i).lst? = some i := id rfl
@[simp] theorem D.tup?_tup (i : List D) : (D.tup i).tup? = some i := id rfl
def tDn (f : D → Option α) (t : Res D) : Res α := t.bind fun d => Res.of (f d)
@[simp] theorem tDn_ok (f : D → Option α) (d : D) : tDn f (.ok d) = Res.of (f d) := id rfl
theorem j_dnI {ta : Res D} (ha : J ma E ta (qC eD)) : J ma E (tDn D.int? ta) (qF D.int) := ha.bindl fun d p i hp h => by
  have hp : p.cd = d := hp
  cases d <;> simp [D.int?] at h
  subst h
  exact still_cd hp rfl
theorem j_dnS {ta : Res D} (ha : J ma E ta (qC eD)) : J ma E (tDn D.str? ta) (qF D.str) := ha.bindl fun d p i hp h => by
  have hp : p.cd = d := hp
  cases d <;> simp [D.str?] at h
  subst h
  exact still_cd hp rfl
theorem j_dnB {ta : Res D} (ha : J ma E ta (qC eD)) : J ma E (tDn D.bl? ta) (qF D.bl) := ha.bindl fun d p i hp h => by
  have hp : p.cd = d := hp
  cases d <;> simp [D.bl?] at h
  subst h
  exact still_cd hp rfl
theorem j_dnL {ta : Res D} (ha : J ma E ta (qC eD)) : J ma E (tDn D.lst? ta) (qC (eL eD)) := ha.bindl fun d p i hp h => by
  have hp : p.cd = d := hp
  cases d <;> simp [D.lst?] at h
  subst h
  show p.cd = D.lst (List.map (fun d => d) _)
  rw [List.map_id']; exact hp
theorem j_dnLF {ta : Res D} (ha : J ma E ta (qF eD)) : J ma E (tDn D.lst? ta) (qF (eL eD)) := ha.bindl fun d p i hp h => by
  have hp : p = .fz d := hp
  cases d <;> simp [D.lst?] at h
  subst h
  show p = .fz (D.lst (List.map (fun d => d) _))
  rw [List.map_id']; exact hp
theorem j_dnT {ta : Res D} (ha : J ma E ta (qC eD)) : J ma E (tDn D.tup? ta) (qF (eS eD)) := ha.bindl fun d p i hp h => by
  have hp : p.cd = d := hp
  cases d <;> simp [D.tup?] at h
  subst h
  show p = .fz (D.tup (List.map (fun d => d) _))
  rw [List.map_id']; exact still_cd hp rfl
def tSome (t : Res (Option α)) : Res α := t.bind Res.of
@[simp] theorem tSome_ok (a : Option α) : tSome (.ok a) = Res.of a := id rfl
theorem j_some {ta : Res (Option α)} {e : α → D} (ha : J ma E ta (qF (eM e))) : J ma E (tSome ta) (qF e) := ha.bindl fun d p i hp h => by
  cases d with
  | none => cases h
  | some a => cases h; exact hp
theorem j_toM {e : α → D} (ha : J ma E ta (qF e)) : J ma E (ta.map some) (qF (eM e)) := ha.mapl fun a p h => h
theorem j_toN {ta : Res Unit} {e : α → D} (ha : J ma E ta (qF eN)) : J ma E (ta.map fun _ => none) (qF (eM e)) := ha.mapl fun a p h => h
/-! slices -/
def cutL (xs : List α) (lo hi : Option Int) : List α := (xs.drop (HT.sIx xs.length 0 lo)).take (HT.sIx xs.length xs.length hi - HT.sIx xs.length 0 lo)
theorem cut_map {f : α → D} {xs : List α} {lo hi : Option Int} : cutD (xs.map f) lo hi = (cutL xs lo hi).map f := by
  unfold cutD cutL
  rw [List.length_map, List.map_take, List.map_drop]
theorem jq_no : J mNoP E (.ok none) qB := ⟨none, rfl, rfl⟩
theorem jq_some {ta : Res Int} (ha : J ma E ta (qF D.int)) : J (mPart ma) E (ta.map some) qB := by
  unfold J at ha ⊢
  cases ta with
  | ok a => obtain ⟨p, h1, h2⟩ := ha; exact ⟨some a, by unfold mPart one1; rw [h1, show p = _ from h2]; rfl, rfl⟩
  | rs x => show mPart ma E = _; unfold mPart one1; rw [show ma E = _ from ha]; rfl
  | stuck => trivial
def tSl (ta : Res (List α)) (tl th : Res (Option Int)) : Res (List α) := ta.bind fun a => tl.bind fun l => th.bind fun h => .ok (cutL a l h)
@[simp] theorem tSl_ok (a : List α) (l h : Option Int) : tSl (.ok a) (.ok l) (.ok h) = .ok (cutL a l h) := id rfl
variable {ml mh : Env → Res (Option Int)} {tl th : Res (Option Int)}
theorem j_m3 {k : P → Option Int → Option Int → Option γ} {f : α → Option Int → Option Int → κ} {Ca : α → P → Prop} {C : κ → γ → Prop} (ha : J ma E ta Ca) (hl : J ml E tl qB) (hh : J mh E th qB)
    (h : ∀ a p l u, Ca a p → ∃ w, k p l u = some w ∧ C (f a l u) w) : J (m3 k ma ml mh) E (ta.bind fun a => tl.bind fun l => th.bind fun u => .ok (f a l u)) C :=
  ha.bind fun a p hp => hl.bind fun l l' hl' => hh.bind fun u u' hu' => by
    have e1 : l' = l := hl'
    have e2 : u' = u := hu'
    subst e1 e2
    obtain ⟨w, h1, h2⟩ := h a p l' u' hp
    exact ⟨w, by rw [h1]; rfl, h2⟩
theorem slc_cd {p : P} {ds : List D} (h : p.cd = .lst ds) : p.slc? = some ds := by
  cases p with
  | fz d => rw [show d = _ from h]; rfl
  | bor l o =>
    cases o with
    | lst xs => have h : D.lst xs = .lst ds := h; cases h; rfl
    | dct _ => cases h
    | obj _ _ => cases h
theorem j_slL {ta : Res (List α)} {e : α → D} (ha : J ma E ta (qC (eL e))) (hl : J ml E tl qB) (hh : J mh E th qB) : J (mSlL ma ml mh) E (tSl ta tl th) (qT (oL e)) := by
  show J (fun env => (m3 kSlL ma ml mh env).map fun z => R.tmp (.lst z)) E _ _
  exact j_mapl' (C := fun z w => w = z.map e) (j_m3 (k := kSlL) ha hl hh fun a p l u hp => ⟨_, by unfold kSlL; rw [slc_cd (show p.cd = .lst (a.map e) from hp)]; rfl, cut_map⟩) fun a p q => by rw [q]; rfl
theorem j_slX {ta : Res (List Int)} (ha : J ma E ta (qF D.scr)) (hl : J ml E tl qB) (hh : J mh E th qB) : J (mSlL ma ml mh) E (tSl ta tl th) (qT (oL D.int)) := by
  show J (fun env => (m3 kSlL ma ml mh env).map fun z => R.tmp (.lst z)) E _ _
  exact j_mapl' (C := fun z w => w = z.map D.int) (j_m3 (k := kSlL) ha hl hh fun a p l u hp => ⟨_, by unfold kSlL; rw [show p = _ from hp]; rfl, cut_map⟩) fun a p q => by rw [q]; rfl
theorem j_slS {ta : Res (List α)} {e : α → D} (ha : J ma E ta (qC (eS e))) (hl : J ml E tl qB) (hh : J mh E th qB) : J (mSlT ma ml mh) E (tSl ta tl th) (qF (eS e)) := by
  show J (fun env => (m3 kSlT ma ml mh env).map fun z => P.fz (.tup z)) E _ _
  exact j_mapl' (C := fun z w => w = z.map e) (j_m3 (k := kSlT) ha hl hh fun a p l u hp => ⟨_, by unfold kSlT; rw [tup_cd (show p.cd = .tup (a.map e) from hp)]; rfl, cut_map⟩) fun a p q => by rw [q]; rfl
/-- a slice of a tuple of a known form -/
theorem j_slT {e : α → D} {e' : κ → D} (f : α → κ) (l u : Option Int) (ha : J ma E ta (qC e)) (hl : ∀ E, ml E = .ok l) (hh : ∀ E, mh E = .ok u) (h : ∀ a, (kSlT (.fz (e a)) l u).map D.tup = some (e' (f a)))
    (hs : ∀ a, (e a).still = true := by exact fun _ => rfl) : J (mSlT ma ml mh) E (ta.map f) (qF e') := by
  have ha := ha.CF hs
  unfold J at ha ⊢
  cases ta with
  | ok a =>
    obtain ⟨p, h1, h2⟩ := ha
    have h := h a
    cases hk : kSlT (.fz (e a)) l u with
    | none => rw [hk] at h; cases h
    | some z =>
      rw [hk] at h
      have h : D.tup z = e' (f a) := Option.some.inj h
      refine ⟨.fz (.tup z), ?_, by show P.fz _ = P.fz _; rw [h]⟩
      unfold mSlT m3; rw [h1, show p = _ from h2]; simp [hl, hh, hk]
  | rs x => show mSlT ma ml mh E = _; unfold mSlT m3; rw [show ma E = _ from ha]; rfl
  | stuck => trivial
/-! displays -/
variable {mr : Env → Res (List P)} {tr : Res β}
def qDs (e : α → D) (n : Nat) : List α → List P → Prop := fun xs ps => ps = xs.map (fun a => P.fz (e a)) ∧ xs.length = n
def qTs (er : α → List D) (n : Nat) : α → List P → Prop := fun x ps => ps = (er x).map P.fz ∧ (er x).length = n
def tCons (ta : Res α) (tr : Res (List α)) : Res (List α) := ta.bind fun a => tr.map fun r => a :: r
def tPair (ta : Res α) (tr : Res β) : Res (α × β) := ta.bind fun a => tr.map fun r => (a, r)
@[simp] theorem tCons_ok (a : α) (r : List α) : tCons (.ok a) (.ok r) = .ok (a :: r) := id rfl
@[simp] theorem tPair_ok (a : α) (r : β) : tPair (.ok a) (.ok r) = .ok (a, r) := id rfl
theorem jl_nil {e : α → D} : J mNil E (.ok []) (qDs e 0) := ⟨[], rfl, rfl, rfl⟩
theorem jl_cons {tr : Res (List α)} {e : α → D} {n : Nat} (ha : J ma E ta (qF e)) (hr : J mr E tr (qDs e n)) : J (mCons ma mr) E (tCons ta tr) (qDs e (n + 1)) :=
  ha.bind fun a p hp => J.map (m := mr) hr fun r ps h => ⟨by rw [show p = _ from hp, h.1]; rfl, by simp [h.2]⟩
theorem jt_nil : J mNil E (.ok ()) (qTs eU 0) := ⟨[], rfl, rfl, rfl⟩
theorem jt_cons {e : α → D} {er : β → List D} {n : Nat} (ha : J ma E ta (qF e)) (hr : J mr E tr (qTs er n)) : J (mCons ma mr) E (tPair ta tr) (qTs (eP e er) (n + 1)) :=
  ha.bind fun a p hp => J.map (m := mr) hr fun r ps h => ⟨by rw [show p = _ from hp, h.1]; rfl, by simp [eP, h.2]⟩
theorem cold_fz : ∀ ds : List D, cold (ds.map P.fz) = some ds
  | [] => rfl
  | d :: ds => by show (cold (ds.map P.fz)).map _ = _; rw [cold_fz ds]; rfl
theorem kDisp_fz {ds : List D} (h : ds.length ≤ 16777216) : kDisp (ds.map P.fz) = some ds := by
  unfold kDisp
  rw [cold_fz]
  exact if_pos h
theorem j_oneA {k : List P → Option γ} {f : β → Option κ} {Cr : β → List P → Prop} {C : κ → γ → Prop} (hr : J mr E tr Cr)
    (h : ∀ a p z, Cr a p → f a = some z → ∃ w, k p = some w ∧ C z w) : J (oneA k mr) E (tr.bind fun a => Res.of (f a)) C :=
  hr.bind fun a p hp => J.of fun z hz => h a p z hp hz
theorem j_oneA' {k : List P → Option γ} {f : β → κ} {Cr : β → List P → Prop} {C : κ → γ → Prop} (hr : J mr E tr Cr)
    (h : ∀ a p, Cr a p → ∃ w, k p = some w ∧ C (f a) w) : J (oneA k mr) E (tr.map f) C := by
  have := j_oneA (f := fun a => some (f a)) (C := C) hr fun a p z hp hz => by cases hz; exact h a p hp
  have e : (tr.bind fun a => Res.of (some (f a))) = tr.map f := by cases tr <;> rfl
  rw [e] at this; exact this
theorem j_oneA'' {k : List P → Option γ} {Cr : β → List P → Prop} {C : β → γ → Prop} (hr : J mr E tr Cr)
    (h : ∀ a p, Cr a p → ∃ w, k p = some w ∧ C a w) : J (oneA k mr) E tr C := by
  have := j_oneA' (f := fun a => a) (C := C) hr h
  have e : tr.map (fun a => a) = tr := by cases tr <;> rfl
  rw [e] at this; exact this
theorem j_lst {tr : Res (List α)} {e : α → D} {n : Nat} (hr : J mr E tr (qDs e n)) (hn : n ≤ 16777216 := by decide) : J (mLst mr) E tr (qT (oL e)) := by
  show J (fun env => (oneA kDisp mr env).map fun z => R.tmp (.lst z)) E _ _
  exact j_mapl' (C := fun z w => w = z.map e) (j_oneA'' hr fun a p hp => ⟨a.map e, by
    rw [hp.1, show a.map (fun a => P.fz (e a)) = (a.map e).map P.fz by simp, kDisp_fz (by simpa [hp.2] using hn)], rfl⟩) fun a p q => by rw [q]; rfl
theorem j_tup {er : β → List D} {n : Nat} (hr : J mr E tr (qTs er n)) (hn : n ≤ 16777216 := by decide) : J (mTup mr) E tr (qF (eT er)) := by
  show J (fun env => (oneA kDisp mr env).map fun z => P.fz (.tup z)) E _ _
  exact j_mapl' (C := fun z w => w = er z) (j_oneA'' hr fun a p hp => ⟨er a, by rw [hp.1, kDisp_fz (by simpa [hp.2] using hn)], rfl⟩) fun a p q => by rw [q]; rfl
/-- a display of a tuple whose things are of one kind, as a row of any length -/
theorem j_tupS {tr : Res (List α)} {e : α → D} {n : Nat} (hr : J mr E tr (qDs e n)) (hn : n ≤ 16777216 := by decide) : J (mTup mr) E tr (qF (eS e)) := by
  show J (fun env => (oneA kDisp mr env).map fun z => P.fz (.tup z)) E _ _
  exact j_mapl' (C := fun z w => w = z.map e) (j_oneA'' hr fun a p hp => ⟨a.map e, by
    rw [hp.1, show a.map (fun a => P.fz (e a)) = (a.map e).map P.fz by simp, kDisp_fz (by simpa [hp.2] using hn)], rfl⟩) fun a p q => by rw [q]; rfl
/-- a list of things of no one kind -/
theorem jd_cons {tr : Res (List D)} {e : α → D} {n : Nat} (ha : J ma E ta (qF e)) (hr : J mr E tr (qDs eD n)) : J (mCons ma mr) E (tCons (ta.map e) tr) (qDs eD (n + 1)) := jl_cons (j_upD ha) hr
/-! sums of lists, repeated lists -/
@[irreducible] def few (n : Nat) : Bool := decide (n ≤ 16777216)
theorem few_iff {n : Nat} : few n = true ↔ n ≤ 16777216 := by unfold few; simp
@[irreducible] def repOk (n : Nat) (k : Int) : Bool := decide (-9223372036854775808 ≤ k ∧ k < 9223372036854775808 ∧ n * k.toNat ≤ 16777216)
theorem repOk_iff {n : Nat} {k : Int} : repOk n k = true ↔ (-9223372036854775808 ≤ k ∧ k < 9223372036854775808 ∧ n * k.toNat ≤ 16777216) := by unfold repOk; simp
theorem repOk_of {n : Nat} {k : Int} (h : -1000000 ≤ k ∧ k ≤ 1000000) (h2 : n * k.toNat ≤ 16777216) : repOk n k = true := repOk_iff.mpr ⟨by omega, by omega, h2⟩
def tCat (ta tb : Res (List α)) : Res (List α) := t2 (fun a b => if few (a.length + b.length) = true then .ok (a ++ b) else .stuck) ta tb
@[simp] theorem tCat_ok (a b : List α) : tCat (.ok a) (.ok b) = if few (a.length + b.length) = true then .ok (a ++ b) else .stuck := id rfl
theorem cat_of (a b : List α) : (if few (a.length + b.length) = true then Res.ok (a ++ b) else .stuck) = Res.of (if few (a.length + b.length) = true then some (a ++ b) else none) := by split <;> rfl
theorem j_cat {ta tb : Res (List α)} {e : α → D} (ha : J ma E ta (qC (eL e))) (hb : J mb E tb (qC (eL e))) : J (mCat ma mb) E (tCat ta tb) (qT (oL e)) := by
  show J (fun env => (m2 kCat ma mb env).map fun z => R.tmp (.lst z)) E _ _
  unfold tCat
  simp only [cat_of]
  exact j_mapl' (C := fun z w => w = z.map e) (j_m2 (k := kCat) (f := fun a b => if few (a.length + b.length) = true then some (a ++ b) else none) ha hb fun a b p q z hp hq hz => by
    unfold kCat
    rw [lst_cd (show p.cd = .lst (a.map e) from hp), lst_cd (show q.cd = .lst (b.map e) from hq)]
    simp only [List.length_map]
    split at hz
    · rename_i hl
      cases hz
      exact ⟨_, if_pos (few_iff.mp hl), by rw [List.map_append]⟩
    · cases hz) fun a p q => by rw [q]; rfl
theorem j_catS {ta tb : Res (List α)} {e : α → D} (ha : J ma E ta (qC (eS e))) (hb : J mb E tb (qC (eS e))) : J (mCatT ma mb) E (tCat ta tb) (qF (eS e)) := by
  show J (fun env => (m2 kCatT ma mb env).map fun z => P.fz (.tup z)) E _ _
  unfold tCat
  simp only [cat_of]
  exact j_mapl' (C := fun z w => w = z.map e) (j_m2 (k := kCatT) (f := fun a b => if few (a.length + b.length) = true then some (a ++ b) else none) ha hb fun a b p q z hp hq hz => by
    unfold kCatT
    rw [tup_cd (show p.cd = .tup (a.map e) from hp), tup_cd (show q.cd = .tup (b.map e) from hq)]
    simp only [tup?_fz, List.length_map]
    split at hz
    · rename_i hl
      cases hz
      exact ⟨_, if_pos (few_iff.mp hl), by rw [List.map_append]⟩
    · cases hz) fun a p q => by rw [q]; rfl
/-- tuples of known forms behind one another -/
theorem j_catT {e : α → D} {e' : β → D} {e'' : κ → D} (f : α → β → κ) (ha : J ma E ta (qF e)) (hb : J mb E tb (qF e')) (h : ∀ a b, (kCatT (.fz (e a)) (.fz (e' b))).map D.tup = some (e'' (f a b))) : J (mCatT ma mb) E (t2 (fun a b => .ok (f a b)) ta tb) (qF e'') := by
  show J (fun env => (m2 kCatT ma mb env).map fun z => P.fz (.tup z)) E _ _
  exact j_mapl' (C := fun z w => D.tup w = e'' z) (j_m2 (k := kCatT) (f := fun a b => some (f a b)) ha hb fun a b p q z hp hq hz => by
    have h := h a b
    rw [show p = _ from hp, show q = _ from hq]
    cases hz
    cases hk : kCatT (.fz (e a)) (.fz (e' b)) with
    | none => rw [hk] at h; cases h
    | some z => rw [hk] at h; exact ⟨z, rfl, Option.some.inj h⟩) fun a p q => by rw [q]; rfl
def tRep (ta : Res (List α)) (tb : Res Int) : Res (List α) := t2 (fun a k => if repOk a.length k = true then .ok (List.replicate k.toNat a).flatten else .stuck) ta tb
@[simp] theorem tRep_ok (a : List α) (k : Int) : tRep (.ok a) (.ok k) = if repOk a.length k = true then .ok (List.replicate k.toNat a).flatten else .stuck := id rfl
theorem rep_map {f : α → D} (a : List α) : ∀ n, (List.replicate n (a.map f)).flatten = (List.replicate n a).flatten.map f
  | 0 => rfl
  | n + 1 => by rw [List.replicate_succ, List.replicate_succ, List.flatten_cons, List.flatten_cons, List.map_append, rep_map a n]
theorem j_rep {ta : Res (List α)} {tb : Res Int} {e : α → D} (ha : J ma E ta (qC (eL e))) (hb : J mb E tb (qF D.int)) : J (mRep ma mb) E (tRep ta tb) (qT (oL e)) := by
  show J (fun env => (m2 kRep ma mb env).map fun z => R.tmp (.lst z)) E _ _
  have e0 : tRep ta tb = t2 (fun a k => Res.of (if repOk a.length k = true then some (List.replicate k.toNat a).flatten else none)) ta tb := by
    unfold tRep
    congr 1
    funext a k
    split <;> rfl
  rw [e0]
  exact j_mapl' (C := fun z w => w = z.map e) (j_m2 (k := kRep) ha hb fun a b p q z hp hq hz => by
    unfold kRep
    rw [lst_cd (show p.cd = .lst (a.map e) from hp), show q = _ from hq]
    simp only [List.length_map, int?_fz]
    split at hz
    · rename_i hl
      cases hz
      exact ⟨_, if_pos (repOk_iff.mp hl), by rw [rep_map]⟩
    · cases hz) fun a p q => by rw [q]; rfl
end
end RC

set_option Elab.async false
set_option linter.all false
set_option maxRecDepth 100000
set_option maxHeartbeats 1000000
/-! T3: built-ins, calls, attributes, comprehensions. -/
namespace RC
open PySem PySem.Spec PyProof.Rows L2
variable {α β γ σ τ ρ ε κ : Type}
section
variable {E : Env} {ma mb mc : Env → Res P} {ta : Res α} {tb : Res β} {mr : Env → Res (List P)} {tr : Res β}
/-! one or two things handed -/
def a1 (C : α → P → Prop) : α → List P → Prop := fun a ps => ∃ p, ps = [p] ∧ C a p
def a2 (C : α → P → Prop) (C' : β → P → Prop) : α × β → List P → Prop := fun a ps => ∃ p q, ps = [p, q] ∧ C a.1 p ∧ C' a.2 q
theorem ja1 {C : α → P → Prop} (ha : J ma E ta C) : J (mCons ma mNil) E ta (a1 C) := by
  unfold J at ha ⊢
  cases ta with
  | ok a => obtain ⟨p, h1, h2⟩ := ha; exact ⟨[p], by unfold mCons mNil; rw [h1]; rfl, p, rfl, h2⟩
  | rs x => show mCons ma mNil E = _; unfold mCons; rw [show ma E = _ from ha]; rfl
  | stuck => trivial
theorem ja2 {C : α → P → Prop} {C' : β → P → Prop} (ha : J ma E ta C) (hb : J mb E tb C') : J (mCons ma (mCons mb mNil)) E (ta.bind fun a => tb.map fun b => (a, b)) (a2 C C') :=
  ha.bind fun a p hp => (ja1 hb).map fun b ps ⟨q, h1, h2⟩ => ⟨p, q, by rw [h1], hp, h2⟩
def tLen (ta : Res (List α)) : Res Int := ta.map fun xs => (xs.length : Int)
@[simp] theorem tLen_ok (xs : List α) : tLen (.ok xs) = .ok (xs.length : Int) := id rfl
theorem kLen_cd {p : P} {ds : List D} (h : (P.fz p.cd).seq? = some ds) : kLen [p] = some (ds.length : Int) := by
  unfold kLen
  simp only [seq_cd h]
theorem j_lenL {ta : Res (List α)} {e : α → D} (ha : J ma E ta (qC (eL e))) : J (mLen (mCons ma mNil)) E (tLen ta) (qF D.int) := by
  show J (fun env => (oneA kLen (mCons ma mNil) env).map fun z => P.fz (.int z)) E _ _
  exact j_mapl' (C := qB) (j_oneA' (f := fun xs : List α => (xs.length : Int)) (ja1 ha) fun a ps ⟨p, h1, h2⟩ => ⟨(a.length : Int), by
    rw [h1, kLen_cd (ds := a.map e) (by rw [show p.cd = _ from h2]; rfl), List.length_map], rfl⟩) fun a p q => by rw [show p = a from q]; rfl
theorem j_lenS {ta : Res (List α)} {e : α → D} (ha : J ma E ta (qC (eS e))) : J (mLen (mCons ma mNil)) E (tLen ta) (qF D.int) := by
  show J (fun env => (oneA kLen (mCons ma mNil) env).map fun z => P.fz (.int z)) E _ _
  exact j_mapl' (C := qB) (j_oneA' (f := fun xs : List α => (xs.length : Int)) (ja1 ha) fun a ps ⟨p, h1, h2⟩ => ⟨(a.length : Int), by
    rw [h1, kLen_cd (ds := a.map e) (by rw [show p.cd = _ from h2]; rfl), List.length_map], rfl⟩) fun a p q => by rw [show p = a from q]; rfl
theorem j_lenT {e : α → D} (n : Nat) (ha : J ma E ta (qC e)) (h : ∀ a, kLen [.fz (e a)] = some (n : Int)) (hs : ∀ a, (e a).still = true := by exact fun _ => rfl) : J (mLen (mCons ma mNil)) E (ta.map fun _ => (n : Int)) (qF D.int) := by
  show J (fun env => (oneA kLen (mCons ma mNil) env).map fun z => P.fz (.int z)) E _ _
  exact j_mapl' (C := qB) (j_oneA' (f := fun _ : α => (n : Int)) (ja1 (ha.CF hs)) fun a ps ⟨p, h1, h2⟩ => ⟨(n : Int), by rw [h1, show p = _ from h2]; exact h a, rfl⟩) fun a p q => by rw [show p = a from q]; rfl
def dLen (d : D) : Option Int := kLen [.fz d]
theorem j_lenD {ta : Res D} (ha : J ma E ta (qC eD)) : J (mLen (mCons ma mNil)) E (tDn dLen ta) (qF D.int) := by
  show J (fun env => (oneA kLen (mCons ma mNil) env).map fun z => P.fz (.int z)) E _ _
  exact j_mapl' (C := qB) (j_oneA (f := dLen) (ja1 ha) fun d ps z ⟨p, h1, h2⟩ hz => ⟨z, by
    have h2 : p.cd = d := h2
    have hz : kLen [.fz d] = some z := hz
    rw [h1]
    cases p with
    | fz d' => rw [show d' = d from h2]; exact hz
    | bor l o =>
      have h2 : o.cold = d := h2
      subst h2
      cases o with
      | lst ds => exact hz
      | dct _ => simp [kLen, O.cold, P.seq?, P.lst?, P.tup?, P.str?] at hz
      | obj _ _ => simp [kLen, O.cold, P.seq?, P.lst?, P.tup?, P.str?] at hz, rfl⟩) fun a p q => by rw [show p = a from q]; rfl
theorem j_lenStr {ta : Res Str} (ha : J ma E ta (qF D.str)) : J (mLen (mCons ma mNil)) E (tDn (fun s : D => dLen s) (ta.map D.str)) (qF D.int) := j_lenD (j_upD ha).FC
def iMin (i j : Int) : Int := if j < i then j else i
def iMax (i j : Int) : Int := if j > i then j else i
def tMin (ta tb : Res Int) : Res Int := t2 (fun a b => .ok (iMin a b)) ta tb
def tMax (ta tb : Res Int) : Res Int := t2 (fun a b => .ok (iMax a b)) ta tb
@[simp] theorem tMin_ok (a b : Int) : tMin (.ok a) (.ok b) = .ok (iMin a b) := id rfl
@[simp] theorem tMax_ok (a b : Int) : tMax (.ok a) (.ok b) = .ok (iMax a b) := id rfl
theorem pair_eq {f : Int → Int → Int} (ta tb : Res Int) : (t2 (fun a b => .ok (f a b)) ta tb : Res Int) = (ta.bind fun a => tb.map fun b => (a, b)).map fun z => f z.1 z.2 := by
  cases ta with
  | ok a => cases tb <;> rfl
  | rs x => rfl
  | stuck => rfl
theorem j_min2 {ta tb : Res Int} (ha : J ma E ta (qF D.int)) (hb : J mb E tb (qF D.int)) : J (mMin2 (mCons ma (mCons mb mNil))) E (tMin ta tb) (qF D.int) := by
  show J (fun env => (oneA kMin2 (mCons ma (mCons mb mNil)) env).map fun z => P.fz (.int z)) E _ _
  unfold tMin
  rw [pair_eq]
  exact j_mapl' (C := qB) (j_oneA' (f := fun z : Int × Int => iMin z.1 z.2) (ja2 ha hb) fun a ps ⟨p, q, h1, h2, h3⟩ => ⟨_, by rw [h1, show p = _ from h2, show q = _ from h3]; rfl, rfl⟩) fun a p q => by rw [show p = a from q]; rfl
theorem j_max2 {ta tb : Res Int} (ha : J ma E ta (qF D.int)) (hb : J mb E tb (qF D.int)) : J (mMax2 (mCons ma (mCons mb mNil))) E (tMax ta tb) (qF D.int) := by
  show J (fun env => (oneA kMax2 (mCons ma (mCons mb mNil)) env).map fun z => P.fz (.int z)) E _ _
  unfold tMax
  rw [pair_eq]
  exact j_mapl' (C := qB) (j_oneA' (f := fun z : Int × Int => iMax z.1 z.2) (ja2 ha hb) fun a ps ⟨p, q, h1, h2, h3⟩ => ⟨_, by rw [h1, show p = _ from h2, show q = _ from h3]; rfl, rfl⟩) fun a p q => by rw [show p = a from q]; rfl
theorem ints?_map : ∀ xs : List Int, ints? (xs.map D.int) = some xs
  | [] => rfl
  | x :: xs => by show (ints? (xs.map D.int)).map _ = _; rw [ints?_map xs]; rfl
theorem j_sum {ta : Res (List Int)} (ha : J ma E ta (qC (eL D.int))) : J (mSum (mCons ma mNil)) E (ta.map List.sum) (qF D.int) := by
  show J (fun env => (oneA kSum (mCons ma mNil) env).map fun z => P.fz (.int z)) E _ _
  exact j_mapl' (C := qB) (j_oneA' (f := List.sum) (ja1 ha) fun a ps ⟨p, h1, h2⟩ => ⟨a.sum, by
    rw [h1]; unfold kSum; simp only [lst_cd (show p.cd = .lst (a.map D.int) from h2), ints?_map]; rfl, rfl⟩) fun a p q => by rw [show p = a from q]; rfl
theorem j_min1 {ta : Res (List Int)} (ha : J ma E ta (qC (eL D.int))) : J (mMin (mCons ma mNil)) E (ta.bind fun a => Res.of a.min?) (qF D.int) := by
  show J (fun env => (oneA kMin (mCons ma mNil) env).map fun z => P.fz (.int z)) E _ _
  exact j_mapl' (C := qB) (j_oneA (f := fun a : List Int => a.min?) (ja1 ha) fun a ps z ⟨p, h1, h2⟩ hz => ⟨z, by
    rw [h1]; unfold kMin; simp only [lst_cd (show p.cd = .lst (a.map D.int) from h2), ints?_map]; exact hz, rfl⟩) fun a p q => by rw [show p = a from q]; rfl
theorem j_intI {ta : Res Int} (ha : J ma E ta (qF D.int)) : J (mInt (mCons ma mNil)) E ta (qF D.int) := by
  show J (fun env => (oneA kInt (mCons ma mNil) env).map fun z => P.fz (.int z)) E _ _
  exact j_mapl' (C := qB) (j_oneA'' (ja1 ha) fun a ps ⟨p, h1, h2⟩ => ⟨a, by rw [h1, show p = _ from h2]; rfl, rfl⟩) fun a p q => by rw [show p = a from q]; rfl
theorem j_intB {ta : Res Bool} (ha : J ma E ta (qF D.bl)) : J (mInt (mCons ma mNil)) E (ta.map fun b => if b = true then (1 : Int) else 0) (qF D.int) := by
  show J (fun env => (oneA kInt (mCons ma mNil) env).map fun z => P.fz (.int z)) E _ _
  exact j_mapl' (C := qB) (j_oneA' (f := fun b : Bool => if b = true then (1 : Int) else 0) (ja1 ha) fun a ps ⟨p, h1, h2⟩ => ⟨_, by rw [h1, show p = _ from h2]; rfl, rfl⟩) fun a p q => by rw [show p = a from q]; rfl
theorem seqL {p : P} {ds : List D} (h : p.cd = .lst ds) : p.seq? = some ds := seq_cd (by rw [h]; rfl)
theorem seqT {p : P} {ds : List D} (h : p.cd = .tup ds) : p.seq? = some ds := seq_cd (by rw [h]; rfl)
theorem j_listL {ta : Res (List α)} {e : α → D} (ha : J ma E ta (qC (eL e))) : J (mListc (mCons ma mNil)) E ta (qT (oL e)) := by
  show J (fun env => (oneA kListc (mCons ma mNil) env).map fun z => R.tmp (.lst z)) E _ _
  exact j_mapl' (C := fun z w => w = z.map e) (j_oneA'' (ja1 ha) fun a ps ⟨p, h1, h2⟩ => ⟨a.map e, by rw [h1]; exact seqL h2, rfl⟩) fun a p q => by rw [q]; rfl
theorem j_listS {ta : Res (List α)} {e : α → D} (ha : J ma E ta (qC (eS e))) : J (mListc (mCons ma mNil)) E ta (qT (oL e)) := by
  show J (fun env => (oneA kListc (mCons ma mNil) env).map fun z => R.tmp (.lst z)) E _ _
  exact j_mapl' (C := fun z w => w = z.map e) (j_oneA'' (ja1 ha) fun a ps ⟨p, h1, h2⟩ => ⟨a.map e, by rw [h1]; exact seqT h2, rfl⟩) fun a p q => by rw [q]; rfl
theorem j_tupL {ta : Res (List α)} {e : α → D} (ha : J ma E ta (qC (eL e))) : J (mTupc (mCons ma mNil)) E ta (qF (eS e)) := by
  show J (fun env => (oneA kTupc (mCons ma mNil) env).map fun z => P.fz (.tup z)) E _ _
  exact j_mapl' (C := fun z w => w = z.map e) (j_oneA'' (ja1 ha) fun a ps ⟨p, h1, h2⟩ => ⟨a.map e, by rw [h1]; exact seqL h2, rfl⟩) fun a p q => by rw [q]; rfl
theorem j_tupS1 {ta : Res (List α)} {e : α → D} (ha : J ma E ta (qC (eS e))) : J (mTupc (mCons ma mNil)) E ta (qF (eS e)) := by
  show J (fun env => (oneA kTupc (mCons ma mNil) env).map fun z => P.fz (.tup z)) E _ _
  exact j_mapl' (C := fun z w => w = z.map e) (j_oneA'' (ja1 ha) fun a ps ⟨p, h1, h2⟩ => ⟨a.map e, by rw [h1]; exact seqT h2, rfl⟩) fun a p q => by rw [q]; rfl
/-- isinstance, of a value whose form is known -/
theorem j_isi {T : String} {e : α → D} (b : Bool) (ha : J ma E ta (qC e)) (h : ∀ a p, p.cd = e a → kIsi T p = some b) : J (mBl (one1 (kIsi T) ma)) E (ta.map fun _ => b) (qF D.bl) :=
  j_vb (by
    have := j_one (k := kIsi T) (f := fun _ : α => some b) (C := qB) ha fun a p z hp hz => ⟨b, h a p hp, by cases hz; rfl⟩
    have e : (ta.bind fun _ => Res.of (some b)) = ta.map fun _ => b := by cases ta <;> rfl
    rw [e] at this; exact this)
def dIsi (T : String) (d : D) : Option Bool := kIsi T (.fz d)
theorem j_isiD {T : String} {ta : Res D} (ha : J ma E ta (qC eD)) : J (mBl (one1 (kIsi T) ma)) E (tDn (dIsi T) ta) (qF D.bl) :=
  j_vb (j_one (k := kIsi T) (f := dIsi T) (C := qB) ha fun d p z hp hz => ⟨z, by
    have hp : p.cd = d := hp
    have hz : kIsi T (.fz d) = some z := hz
    cases p with
    | fz d' => rw [show d' = d from hp]; exact hz
    | bor l o =>
      have hp : o.cold = d := hp
      subst hp
      cases o with
      | lst ds => exact hz
      | dct _ => simp [kIsi, P.ty?, O.cold] at hz
      | obj _ _ => simp [kIsi, P.ty?, O.cold] at hz, rfl⟩)
theorem isi_still {T : String} {e : α → D} {b : Bool} (hs : ∀ a, (e a).still = true) (h : ∀ a, kIsi T (.fz (e a)) = some b) : ∀ a p, p.cd = e a → kIsi T p = some b := fun a p hp => by rw [still_cd hp (hs a)]; exact h a
theorem isi_lst {T : String} {e : α → D} {b : Bool} (h : ∀ ds, kIsi T (.fz (.lst ds)) = some b) : ∀ (a : List α) p, p.cd = eL e a → kIsi T p = some b := fun a p hp => by
  cases p with
  | fz d => rw [show d = .lst (a.map e) from hp]; exact h _
  | bor l o =>
    have hp : o.cold = D.lst (a.map e) := hp
    cases o with
    | lst xs => exact h xs
    | dct _ => cases hp
    | obj _ _ => cases hp
end
end RC

set_option Elab.async false
set_option linter.all false
set_option maxRecDepth 100000
set_option maxHeartbeats 1000000
/-! T4: calls, attributes, comprehensions. -/
namespace RC
open PySem PySem.Spec PyProof.Rows L2
variable {α β γ σ τ ρ ε κ : Type}
/-! things handed to a def -/
def sF (e : α → D) : α → S → Prop := fun a s => s = .fz (e a)
def sR (e : α → D) : α → S → Prop := fun a s => Rd s (e a)
def aNil : Unit → List S → Prop := fun _ ss => ss = []
def aCons (Sa : α → S → Prop) (Sr : β → List S → Prop) : α × β → List S → Prop := fun a ss => ∃ s r, ss = s :: r ∧ Sa a.1 s ∧ Sr a.2 r
def qS (C : α → List S → Prop) : α → List P → Prop := fun a ps => C a (ps.map P.s)
theorem F_sF {e : α → D} : ∀ a p, qF e a p → sF e a p.s := fun a p h => by rw [show p = _ from h]; rfl
theorem C_sR {e : α → D} : ∀ a p, qC e a p → sR e a p.s := fun a p h => by
  cases p with
  | fz d => exact .inl (by rw [show d = _ from h]; rfl)
  | bor l o => exact .inr ⟨o, rfl, h⟩
theorem F_sR {e : α → D} : ∀ a p, qF e a p → sR e a p.s := fun a p h => .inl (F_sF a p h)
theorem A_sR {e : α → D} : ∀ a p, qA e a p → sR e a p.s := fun a p h => C_sR a p (AC h)
/-- a def answers as a typed one -/
def ansF (Cr : β → R → Prop) (t : Res β) (r : CallR) : Prop := match t with
  | .ok v => ∃ R o, r = .ok R o ∧ Cr v R
  | .rs x => ∃ o, r = .rs x o
  | .stuck => True
structure CG (Q : Res κ → CallR → Prop) (f : List S → CallR) (t : α → Res κ) (C : α → List S → Prop) : Prop where
  run : ∀ a ss, C a ss → Q (t a) (f ss)
abbrev CF (f : List S → CallR) (t : α → Res β) (C : α → List S → Prop) (Cr : β → R → Prop) : Prop := CG (ansF Cr) f t C
theorem cg_nil {Q : Res κ → CallR → Prop} {f : List S → CallR} {t : Unit → Res κ} (h : Q (t ()) (f [])) : CG Q f t aNil := ⟨fun a ss z => by
  have z : ss = [] := z
  subst z
  exact h⟩
theorem cg_F {Q : Res κ → CallR → Prop} {f : List S → CallR} {t : α × β → Res κ} {e : α → D} {Sr : β → List S → Prop} (h : ∀ a, CG Q (fun ss => f (.fz (e a) :: ss)) (fun r => t (a, r)) Sr) : CG Q f t (aCons (sF e) Sr) := ⟨fun a ss z => by
  obtain ⟨s, r, z1, z2, z3⟩ := z
  have z2 : s = .fz (e a.1) := z2
  subst z1 z2
  exact (h a.1).run a.2 r z3⟩
theorem cg_R {Q : Res κ → CallR → Prop} {f : List S → CallR} {t : α × β → Res κ} {e : α → D} {Sr : β → List S → Prop} (h : ∀ a s, Rd s (e a) → CG Q (fun ss => f (s :: ss)) (fun r => t (a, r)) Sr) : CG Q f t (aCons (sR e) Sr) := ⟨fun a ss z => by
  obtain ⟨s, r, z1, z2, z3⟩ := z
  subst z1
  exact (h a.1 s z2).run a.2 r z3⟩
def NB (Cr : β → R → Prop) : Prop := ∀ v l o, ¬ Cr v (.bor l o)
theorem nb_T {eo : β → O} : NB (qT eo) := fun v l o h => by cases h
theorem nb_N {e : β → D} : NB (qN e) := fun v l o h => by cases h
section
variable {E : Env} {ma mb mc : Env → Res P} {ta : Res α} {tb : Res β} {mr : Env → Res (List P)} {tr : Res β}
theorem ja_nil : J mNil E (.ok ()) (qS aNil) := ⟨[], rfl, rfl⟩
theorem ja_cons {Ca : α → P → Prop} {Sa : α → S → Prop} {Cr : β → List S → Prop} (ha : J ma E ta Ca) (hs : ∀ a p, Ca a p → Sa a p.s) (hr : J mr E tr (qS Cr)) : J (mCons ma mr) E (tPair ta tr) (qS (aCons Sa Cr)) :=
  ha.bind fun a p hp => J.map (m := mr) hr fun r ps h => ⟨p.s, ps.map P.s, rfl, hs a p hp, h⟩
theorem run_of {f : List S → CallR} {t : Res κ} {ss : List S} {Cr : κ → R → Prop} (nb : NB Cr) (h : ansF Cr t (f ss)) : J (fun _ => mRun (f ss)) E t Cr := by
  cases t with
  | ok v =>
    obtain ⟨r, o, h1, h2⟩ := h
    refine ⟨r, ?_, h2⟩
    show mRun (f ss) = _
    rw [h1]
    cases r with
    | bor l o => exact absurd h2 (nb v l o)
    | fz d => rfl
    | tmp o => rfl
  | rs x => obtain ⟨o, h1⟩ := h; show mRun (f ss) = _; rw [h1]; rfl
  | stuck => trivial
theorem j_call {f : List S → CallR} {t : β → Res κ} {C : β → List S → Prop} {Cr : κ → R → Prop} (F : CF f t C Cr) (hr : J mr E tr (qS C)) (nb : NB Cr := by first | exact nb_T | exact nb_N) : J (mCall f mr) E (tr.bind t) Cr :=
  hr.bind fun a ps hp => run_of nb (F.run a _ hp)
/-! objects -/
def isObjD (n m : Str) : D → Bool
  | .obj n' fs => decide (n' = n) && decide (m ∉ fs.map (·.1))
  | _ => false
theorem isObj_cd {n m : Str} {p : P} (h : isObjD n m p.cd = true) : isObj n m p = true := by
  cases p with
  | fz d =>
    cases d <;> first | exact h | cases h
  | bor l o =>
    cases o with
    | lst _ => cases h
    | dct _ => cases h
    | obj n' fs =>
      have h : (decide (n' = n) && decide (m ∉ (fs.map fun p => (p.1, p.2.cold)).map (·.1))) = true := h
      have e : (fs.map fun p => (p.1, p.2.cold)).map (·.1) = fs.map (·.1) := by simp
      rw [e] at h
      exact h
theorem j_meth {n m : Str} {f : List S → CallR} {t : α × β → Res κ} {Ca : α → P → Prop} {Sa : α → S → Prop} {C : β → List S → Prop} {Cr : κ → R → Prop} (F : CF f t (aCons Sa C) Cr) (ha : J ma E ta Ca) (hs : ∀ a p, Ca a p → Sa a p.s) (ho : ∀ a p, Ca a p → isObj n m p = true) (hr : J mr E tr (qS C))
    (nb : NB Cr := by first | exact nb_T | exact nb_N) : J (mMeth n m f ma mr) E (ta.bind fun a => tr.bind fun b => t (a, b)) Cr :=
  ha.bind fun a p hp => by
    show J (fun env => if isObj n m p = true then (mr env).bind fun ps => mRun (f (p.s :: ps.map P.s)) else .stuck) E _ Cr
    simp only [ho a p hp, if_true]
    exact hr.bind fun b ps hb => run_of nb (F.run (a, b) (p.s :: ps.map P.s) ⟨_, _, rfl, hs a p hp, hb⟩)
/-- a def that makes an object -/
def ansI (eo : κ → O) (t : Res κ) (r : CallR) : Prop := match t with
  | .ok v => r = .ok (.fz .non) (some (eo v))
  | .rs x => ∃ o, r = .rs x o
  | .stuck => True
abbrev CI (n : Str) (f : List S → CallR) (t : β → Res κ) (C : β → List S → Prop) (eo : κ → O) : Prop := CG (ansI eo) (fun ss => f (.mu (.obj n []) :: ss)) t C
theorem j_make {n : Str} {f : List S → CallR} {t : β → Res κ} {C : β → List S → Prop} {eo : κ → O} (F : CI n f t C eo) (hr : J mr E tr (qS C)) : J (mMake n f mr) E (tr.bind t) (qT eo) :=
  hr.bind fun b ps hb => by
    have h : ansI eo (t b) (f (.mu (.obj n []) :: ps.map P.s)) := F.run b _ hb
    unfold J
    cases ht : t b with
    | ok v => rw [ht] at h; have h : f (.mu (.obj n []) :: ps.map P.s) = _ := h; exact ⟨.tmp (eo v), by rw [h]; rfl, rfl⟩
    | rs x => rw [ht] at h; obtain ⟨o, h⟩ := h; show mMade _ = _; rw [h]; rfl
    | stuck => trivial
/-! attributes -/
def attD (n f : Str) : D → Option D
  | .obj n' fs => if n' = n then fs.lookup f else none
  | _ => none
theorem lookup_cold (f : Str) : ∀ fs : List (Str × F), (fs.map fun p => (p.1, p.2.cold)).lookup f = (fs.lookup f).map F.cold
  | [] => rfl
  | (k, x) :: fs => by
    show List.lookup f ((k, x.cold) :: fs.map fun p => (p.1, p.2.cold)) = _
    rw [List.lookup_cons, List.lookup_cons, lookup_cold f fs]
    cases f == k <;> rfl
theorem kAtt_F {n f : Str} {d d' : D} (h : attD n f d = some d') : kAtt n f (.fz d) = some (.fz d') := by
  cases d <;> first | cases h | skip
  rename_i n' fs
  have h : (if n' = n then fs.lookup f else none) = some d' := h
  show (if n' = n then (fs.lookup f).map P.fz else none) = _
  by_cases hn : n' = n
  · rw [if_pos hn] at h ⊢; rw [h]; rfl
  · rw [if_neg hn] at h; cases h
theorem kAtt_bor {n f : Str} {l : Lab} {o : O} {d' : D} (h : attD n f o.cold = some d') : ∃ p, kAtt n f (.bor l o) = some p ∧ p.cd = d' ∧ ((∃ d, p = .fz d) ∨ ∃ o', p = .bor l o') := by
  cases o with
  | lst _ => cases h
  | dct _ => cases h
  | obj n' fs =>
    have h : (if n' = n then (fs.map fun p => (p.1, p.2.cold)).lookup f else none) = some d' := h
    show ∃ p, (if n' = n then match fs.lookup f with
      | some (.fz d) => some (P.fz d)
      | some (.lst ds) => some (P.bor l (.lst ds))
      | some (.dct ds) => some (P.bor l (.dct ds))
      | none => none
      else none) = some p ∧ p.cd = d' ∧ ((∃ d, p = .fz d) ∨ ∃ o', p = .bor l o')
    by_cases hn : n' = n
    · rw [if_pos hn] at h ⊢
      rw [lookup_cold] at h
      cases hl : fs.lookup f with
      | none => rw [hl] at h; cases h
      | some x =>
        rw [hl] at h
        have h := Option.some.inj h
        cases x with
        | fz d => exact ⟨.fz d, rfl, h, .inl ⟨d, rfl⟩⟩
        | lst ds => exact ⟨.bor l (.lst ds), rfl, h, .inr ⟨_, rfl⟩⟩
        | dct ds => exact ⟨.bor l (.dct ds), rfl, h, .inr ⟨_, rfl⟩⟩
    · rw [if_neg hn] at h; cases h
theorem j_att0 {n f : Str} {k : α → κ} {Ca : α → P → Prop} {C : κ → P → Prop} (ha : J ma E ta Ca) (h : ∀ a p, Ca a p → ∃ w, kAtt n f p = some w ∧ C (k a) w) : J (mAtt n f ma) E (ta.map k) C := by
  have := j_one (k := kAtt n f) (f := fun a => some (k a)) (C := C) ha fun a p z hp hz => by cases hz; exact h a p hp
  have e : (ta.bind fun a => Res.of (some (k a))) = ta.map k := by cases ta <;> rfl
  rw [e] at this; exact this
theorem j_attF {n f : Str} {e : α → D} {e' : κ → D} (k : α → κ) (ha : J ma E ta (qF e)) (h : ∀ a, attD n f (e a) = some (e' (k a))) : J (mAtt n f ma) E (ta.map k) (qF e') :=
  j_att0 ha fun a p hp => ⟨_, by rw [show p = _ from hp]; exact kAtt_F (h a), rfl⟩
theorem j_attC {n f : Str} {e : α → D} {e' : κ → D} (k : α → κ) (ha : J ma E ta (qC e)) (h : ∀ a, attD n f (e a) = some (e' (k a))) : J (mAtt n f ma) E (ta.map k) (qC e') :=
  j_att0 ha fun a p hp => by
    cases p with
    | fz d => exact ⟨_, kAtt_F (by rw [show d = _ from hp]; exact h a), rfl⟩
    | bor l o =>
      obtain ⟨w, h1, h2, _⟩ := kAtt_bor (l := l) (n := n) (f := f) (o := o) (by rw [show o.cold = _ from hp]; exact h a)
      exact ⟨w, h1, h2⟩
theorem j_attA {n f : Str} {e : α → D} {e' : κ → D} (k : α → κ) (ha : J ma E ta (qA e)) (h : ∀ a, attD n f (e a) = some (e' (k a))) : J (mAtt n f ma) E (ta.map k) (qA e') :=
  j_att0 ha fun a p hp => by
    rcases hp with rfl | ⟨o, rfl, ho⟩
    · exact ⟨_, kAtt_F (h a), .inl rfl⟩
    · obtain ⟨w, h1, h2, h3⟩ := kAtt_bor (l := .amb) (n := n) (f := f) (o := o) (by rw [ho]; exact h a)
      rcases h3 with ⟨d, rfl⟩ | ⟨o', rfl⟩
      · exact ⟨_, h1, .inl (by rw [show d = _ from h2])⟩
      · exact ⟨_, h1, .inr ⟨o', rfl, h2⟩⟩
/-! comprehensions -/
def tComp (tc : α → Res Bool) (te : α → Res β) : List α → Res (List β)
  | [] => .ok []
  | a :: as => match tc a with
    | .ok true => match te a with
      | .ok b => (tComp tc te as).map fun r => b :: r
      | _ => .stuck
    | .ok false => tComp tc te as
    | _ => .stuck
def tLc (tc : α → Res Bool) (te : α → Res β) (ta : Res (List α)) : Res (List β) := ta.bind fun xs => if few xs.length = true then (match tComp tc te xs with
  | .ok ys => .ok ys
  | _ => .stuck) else .stuck
theorem compD_acc {g : D → Env → Option Env} {tc : Env → Res Bool} {me : Env → Res P} {env : Env} : ∀ (ds acc : List D) (ys : List D), compD g tc me env ds [] = .ok ys → compD g tc me env ds acc = .ok (acc ++ ys)
  | [], acc, ys, h => by unfold compD at h ⊢; cases h; simp
  | d :: ds, acc, ys, h => by
    unfold compD at h ⊢
    cases hg : g d env with
    | none => rw [hg] at h; cases h
    | some e =>
      rw [hg] at h
      simp only at h ⊢
      cases ht : tc e with
      | stuck => rw [ht] at h; cases h
      | rs x => rw [ht] at h; cases h
      | ok b =>
        rw [ht] at h
        cases b with
        | false => exact compD_acc ds acc ys h
        | true =>
          simp only at h ⊢
          cases hm : me e with
          | stuck => rw [hm] at h; cases h
          | rs x => rw [hm] at h; cases h
          | ok p =>
            rw [hm] at h
            cases p with
            | bor l o => cases h
            | fz y =>
              simp only at h ⊢
              have h : compD g tc me env ds ([] ++ [y]) = .ok ys := h
              cases hr : compD g tc me env ds [] with
              | ok r =>
                rw [compD_acc ds _ r hr] at h
                cases h
                rw [compD_acc ds _ r hr]
                simp
              | rs x => exact absurd h (compD_bad hr (by intro y; exact (nomatch ·)) _ _)
              | stuck => exact absurd h (compD_bad hr (by intro y; exact (nomatch ·)) _ _)
where
  compD_bad {g : D → Env → Option Env} {tc : Env → Res Bool} {me : Env → Res P} {env : Env} {r : Res (List D)} : ∀ {ds acc0 : List D}, compD g tc me env ds acc0 = r → (∀ y, r ≠ .ok y) → ∀ acc ys, compD g tc me env ds acc ≠ .ok ys
    | [], acc0, h, hn, acc, ys => by unfold compD at h; exact absurd h.symm (hn _)
    | d :: ds, acc0, h, hn, acc, ys => by
      unfold compD at h ⊢
      cases hg : g d env with
      | none => simp
      | some e =>
        rw [hg] at h
        simp only at h ⊢
        cases ht : tc e with
        | stuck => simp
        | rs x => simp
        | ok b =>
          rw [ht] at h
          cases b with
          | false => exact compD_bad h hn acc ys
          | true =>
            simp only at h ⊢
            cases hm : me e with
            | stuck => simp
            | rs x => simp
            | ok p =>
              rw [hm] at h
              cases p with
              | bor l o => simp
              | fz y => exact compD_bad h hn _ _
theorem j_comp {tc : Env → Res Bool} {me : Env → Res P} {e : α → D} {e' : β → D} {tt : α → Res Bool} {te : α → Res β} {g : D → Env → Option Env} {Eg : α → Env}
    (hg : ∀ a, g (e a) E = some (Eg a)) (hc : ∀ a, J tc (Eg a) (tt a) qB) (he : ∀ a, J me (Eg a) (te a) (qF e')) : ∀ (xs : List α) (ys : List β), tComp tt te xs = .ok ys → compD g tc me E (xs.map e) [] = .ok (ys.map e')
  | [], ys, h => by unfold tComp at h; cases h; rfl
  | a :: as, ys, h => by
    have h1 := hc a
    have h2 := he a
    unfold tComp at h
    rw [List.map_cons]
    unfold compD
    rw [hg a]
    simp only
    cases ht : tt a with
    | stuck => rw [ht] at h; cases h
    | rs x => rw [ht] at h; cases h
    | ok b =>
      rw [ht] at h h1
      obtain ⟨p, h3, h4⟩ := h1
      have h4 : p = b := h4
      subst h4
      rw [h3]
      cases p with
      | false => exact j_comp hg hc he as ys h
      | true =>
        simp only at h ⊢
        cases hm : te a with
        | stuck => rw [hm] at h; cases h
        | rs x => rw [hm] at h; cases h
        | ok b =>
          rw [hm] at h h2
          obtain ⟨q, h5, h6⟩ := h2
          rw [h5, show q = _ from h6]
          simp only at h ⊢
          cases hr : tComp tt te as with
          | stuck => rw [hr] at h; cases h
          | rs x => rw [hr] at h; cases h
          | ok r =>
            rw [hr] at h
            cases h
            rw [compD_acc _ _ _ (j_comp hg hc he as r hr)]
            rfl
theorem j_lc0 {v : Nat} {tc : Env → Res Bool} {me : Env → Res P} {e : α → D} {e' : β → D} {tt : α → Res Bool} {te : α → Res β} {xs : List α} (hf : free? E v = true)
    (hc : ∀ a, J tc ((wipeE E [v]).set v (.fz (e a))) (tt a) qB) (he : ∀ a, J me ((wipeE E [v]).set v (.fz (e a))) (te a) (qF e')) : J (fun E' => mComp v tc me (xs.map e) E') E (tLc tt te (.ok xs)) (qT (oL e')) := by
  show J _ E (if few xs.length = true then (match tComp tt te xs with
    | .ok ys => .ok ys
    | _ => .stuck) else .stuck) _
  by_cases hl : few xs.length = true
  · rw [if_pos hl]
    cases ht : tComp tt te xs with
    | stuck => trivial
    | rs x => trivial
    | ok ys =>
      refine ⟨.tmp (.lst (ys.map e')), ?_, rfl⟩
      show mComp v tc me (xs.map e) E = _
      unfold mComp
      have hg : ∀ a, gN v (e a) (wipeE E [v]) = some ((wipeE E [v]).set v (.fz (e a))) := fun a => by
        unfold gN setP
        have : free? (wipeE E [v]) v = true := by
          rw [free?_eq] at hf ⊢
          show freeK (E.set v .un)[v]? = true
          cases hv : E[v]? with
          | none => rw [hv] at hf; cases hf
          | some s =>
            have := (List.getElem?_eq_some_iff.mp hv).1
            rw [List.getElem?_set]
            simp [this]
        rw [if_pos this]
      rw [if_pos ⟨hf, by simpa using few_iff.mp hl⟩, j_comp (E := wipeE E [v]) (Eg := fun a => (wipeE E [v]).set v (.fz (e a))) hg hc he xs ys ht]
  · rw [if_neg hl]; trivial
theorem lc_bind (tt : α → Res Bool) (te : α → Res β) (ta : Res (List α)) : tLc tt te ta = ta.bind fun xs => tLc tt te (.ok xs) := by cases ta <;> rfl
theorem lc_fin {v : Nat} {m : Env → Res R} {tc : Env → Res Bool} {me : Env → Res P} {ta : Res (List α)} {e : α → D} {e' : β → D} {tt : α → Res Bool} {te : α → Res β}
    (h1 : ∀ xs, ta = .ok xs → m E = mComp v tc me (xs.map e) E) (h2 : ∀ x, ta = .rs x → m E = .rs x)
    (hc : ∀ a, J tc ((wipeE E [v]).set v (.fz (e a))) (tt a) qB) (he : ∀ a, J me ((wipeE E [v]).set v (.fz (e a))) (te a) (qF e')) (hf : free? E v = true) : J m E (tLc tt te ta) (qT (oL e')) := by
  rw [lc_bind]
  cases ta with
  | stuck => trivial
  | rs x => exact h2 x rfl
  | ok xs =>
    have z := j_lc0 (xs := xs) hf hc he
    show J m E (tLc tt te (.ok xs)) _
    unfold J at z ⊢
    cases hz : tLc tt te (.ok xs) with
    | stuck => trivial
    | rs x => rw [hz] at z; simp only; rw [h1 xs rfl]; exact z
    | ok ys => rw [hz] at z; obtain ⟨r, w1, w2⟩ := z; exact ⟨r, by rw [h1 xs rfl]; exact w1, w2⟩
theorem it_A {e : α → D} {xs : List α} {p : P} (hp : qA (eL e) xs p) : P.it? p = some (xs.map e) := by
  rcases hp with rfl | ⟨o, rfl, ho⟩
  · rfl
  · cases o with
    | lst ds => have : D.lst ds = .lst (xs.map e) := ho; cases this; rfl
    | dct _ => cases ho
    | obj _ _ => cases ho
theorem j_lcL {v : Nat} {tc : Env → Res Bool} {me : Env → Res P} {ta : Res (List α)} {e : α → D} {e' : β → D} {tt : α → Res Bool} {te : α → Res β} (ha : J ma E ta (qA (eL e))) 
    (hc : ∀ a, J tc ((wipeE E [v]).set v (.fz (e a))) (tt a) qB) (he : ∀ a, J me ((wipeE E [v]).set v (.fz (e a))) (te a) (qF e')) (hf : free? E v = true := by rfl) : J (mLc P.it? v ma tc me) E (tLc tt te ta) (qT (oL e')) :=
  lc_fin (fun xs h => by
    subst h
    obtain ⟨p, h1, h2⟩ := ha
    unfold mLc
    rw [h1]
    simp only [it_A h2]) (fun x h => by subst h; unfold mLc; rw [show ma E = _ from ha]) hc he hf
theorem j_lcT {v : Nat} {tc : Env → Res Bool} {me : Env → Res P} {ta : Res (List α)} {e : α → D} {e' : β → D} {tt : α → Res Bool} {te : α → Res β} (ha : J ma E ta (qC (eS e))) 
    (hc : ∀ a, J tc ((wipeE E [v]).set v (.fz (e a))) (tt a) qB) (he : ∀ a, J me ((wipeE E [v]).set v (.fz (e a))) (te a) (qF e')) (hf : free? E v = true := by rfl) : J (mLc P.tup? v ma tc me) E (tLc tt te ta) (qT (oL e')) :=
  lc_fin (fun xs h => by
    subst h
    obtain ⟨p, h1, h2⟩ := ha
    unfold mLc
    rw [h1, tup_cd (show p.cd = .tup (xs.map e) from h2)]
    rfl) (fun x h => by subst h; unfold mLc; rw [show ma E = _ from ha]) hc he hf
/-! ranges -/
def rngI (lo : Int) (n : Nat) : List Int := (List.range n).map fun k : Nat => lo + (k : Int)
theorem rngI_map (lo : Int) (n : Nat) : rngD lo n = (rngI lo n).map D.int := by unfold rngD rngI; simp
/-- bounds, never looked into by the unifier -/
@[irreducible] def rgOk (j : Int) : Bool := decide (-4611686018427387904 ≤ j ∧ j < 4611686018427387904)
theorem rgOk_iff {j : Int} : rgOk j = true ↔ (-4611686018427387904 ≤ j ∧ j < 4611686018427387904) := by unfold rgOk; simp
def tR1 (ta : Res Int) : Res (List Int) := ta.bind fun j => if rgOk j = true then .ok (rngI 0 j.toNat) else .stuck
def tR2 (ta tb : Res Int) : Res (List Int) := t2 (fun i j => if rgOk i = true ∧ rgOk j = true then .ok (rngI i (j - i).toNat) else .stuck) ta tb
def qR (xs : List Int) (z : Int × Nat) : Prop := rngD z.1 z.2 = xs.map D.int
theorem j_r1 {ta : Res Int} (ha : J ma E ta (qF D.int)) : J (oneA kRng1 (mCons ma mNil)) E (tR1 ta) qR := by
  have e0 : tR1 ta = ta.bind fun j => Res.of (if rgOk j = true then some (rngI 0 j.toNat) else none) := by
    unfold tR1; congr 1; funext j; split <;> rfl
  rw [e0]
  exact j_oneA (ja1 ha) fun a ps z ⟨p, h1, h2⟩ hz => by
    rw [h1, show p = _ from h2]
    split at hz
    · rename_i hb
      cases hz
      exact ⟨(0, a.toNat), by show (if _ then _ else _) = _; rw [if_pos (rgOk_iff.mp hb)], rngI_map 0 _⟩
    · cases hz
theorem j_r2 {ta tb : Res Int} (ha : J ma E ta (qF D.int)) (hb : J mb E tb (qF D.int)) : J (oneA kRng2 (mCons ma (mCons mb mNil))) E (tR2 ta tb) qR := by
  have e0 : tR2 ta tb = (ta.bind fun a => tb.map fun b => (a, b)).bind fun z => Res.of (if rgOk z.1 = true ∧ rgOk z.2 = true then some (rngI z.1 (z.2 - z.1).toNat) else none) := by
    unfold tR2 t2
    cases ta with
    | ok a => cases tb with
      | ok b => simp only [bind_ok, map_ok]; split <;> rfl
      | rs x => rfl
      | stuck => rfl
    | rs x => rfl
    | stuck => rfl
  rw [e0]
  exact j_oneA (ja2 ha hb) fun a ps z ⟨p, q, h1, h2, h3⟩ hz => by
    rw [h1, show p = _ from h2, show q = _ from h3]
    split at hz
    · rename_i hb
      cases hz
      have b1 := rgOk_iff.mp hb.1
      have b2 := rgOk_iff.mp hb.2
      exact ⟨(a.1, (a.2 - a.1).toNat), by show (if _ then _ else _) = _; rw [if_pos ⟨b1.1, b1.2, b2.1, b2.2⟩], rngI_map _ _⟩
    · cases hz
theorem j_lcR {v : Nat} {k : List P → Option (Int × Nat)} {tc : Env → Res Bool} {me : Env → Res P} {ta : Res (List Int)} {e' : β → D} {tt : Int → Res Bool} {te : Int → Res β} (ha : J (oneA k mr) E ta qR) 
    (hc : ∀ a, J tc ((wipeE E [v]).set v (.fz (.int a))) (tt a) qB) (he : ∀ a, J me ((wipeE E [v]).set v (.fz (.int a))) (te a) (qF e')) (hf : free? E v = true := by rfl) : J (mLcR k v mr tc me) E (tLc tt te ta) (qT (oL e')) :=
  lc_fin (e := D.int) (fun xs h => by
    subst h
    obtain ⟨p, h1, h2⟩ := ha
    unfold mLcR
    rw [h1]
    show mComp v tc me (rngD p.1 p.2) E = _
    rw [show rngD p.1 p.2 = _ from h2]) (fun x h => by subst h; unfold mLcR; rw [show oneA k mr E = _ from ha]) hc he hf
theorem j_yes : J tYesB E (.ok true) qB := ⟨true, rfl, rfl⟩
@[simp] theorem tComp_nil (tc : α → Res Bool) (te : α → Res β) : tComp tc te [] = .ok [] := id rfl
theorem tComp_fm {tc : α → Res Bool} {te : α → Res β} {p : α → Bool} {f : α → β} : ∀ xs : List α, (∀ a ∈ xs, tc a = .ok (p a) ∧ (p a = true → te a = .ok (f a))) → tComp tc te xs = .ok ((xs.filter p).map f)
  | [], _ => rfl
  | a :: as, h => by
    obtain ⟨h1, h2⟩ := h a List.mem_cons_self
    unfold tComp
    rw [h1, tComp_fm as fun x hx => h x (List.mem_cons_of_mem _ hx)]
    cases hp : p a with
    | false => simp [hp]
    | true => simp [hp, h2 hp]
theorem tLc_fm {tc : α → Res Bool} {te : α → Res β} {xs : List α} (p : α → Bool) (f : α → β) (hl : xs.length ≤ 16777216) (h : ∀ a ∈ xs, tc a = .ok (p a) ∧ (p a = true → te a = .ok (f a))) : tLc tc te (.ok xs) = .ok ((xs.filter p).map f) := by
  show (if few xs.length = true then (match tComp tc te xs with
    | .ok ys => Res.ok ys
    | _ => .stuck) else .stuck) = _
  rw [if_pos (few_iff.mpr hl), tComp_fm xs h]
theorem tLc_m {te : α → Res β} {xs : List α} (f : α → β) (hl : xs.length ≤ 16777216) (h : ∀ a ∈ xs, te a = .ok (f a)) : tLc (fun _ => .ok true) te (.ok xs) = .ok (xs.map f) := by
  rw [tLc_fm (fun _ => true) f hl fun a ha => ⟨rfl, fun _ => h a ha⟩, List.filter_eq_self.2 fun _ _ => rfl]
theorem rgOk_of {j : Int} (h : -1000000 ≤ j ∧ j ≤ 1000000) : rgOk j = true := rgOk_iff.mpr ⟨by omega, by omega⟩
theorem tR1_nat {n : Nat} (h : n ≤ 1000000) : tR1 (.ok (n : Int)) = .ok (rngI 0 n) := by
  unfold tR1
  rw [bind_ok, if_pos (rgOk_of ⟨by omega, by omega⟩), Int.toNat_natCast]
theorem tR1_int {i : Int} {n : Nat} (hi : i = (n : Int)) (h : n ≤ 1000000) : tR1 (.ok i) = .ok (rngI 0 n) := by rw [hi, tR1_nat h]
theorem tR2_int {i j : Int} (h : -1000000 ≤ i ∧ i ≤ 1000000 ∧ -1000000 ≤ j ∧ j ≤ 1000000) : tR2 (.ok i) (.ok j) = .ok (rngI i (j - i).toNat) := by
  unfold tR2
  rw [t2_ok, if_pos ⟨rgOk_of ⟨by omega, by omega⟩, rgOk_of ⟨by omega, by omega⟩⟩]
@[simp] theorem rngI_len (lo : Int) (n : Nat) : (rngI lo n).length = n := by simp [rngI]
theorem rngI_get {lo : Int} {n i : Nat} (h : i < n) : (rngI lo n)[i]? = some (lo + (i : Int)) := by simp [rngI, h]
end
end RC

set_option Elab.async false
set_option linter.all false
set_option maxRecDepth 100000
set_option maxHeartbeats 1000000
/-! T5: statements, loops, defs. -/
namespace RC
open PySem PySem.Spec PyProof.Rows L2
variable {α β γ σ σ' τ ρ ε κ : Type}
inductive TF (β σ ρ ε : Type) where
  | nx (s : σ) | bk (s : β) | ct (s : β) | rt (r : ρ) | rs (x : Exc) (e : ε) | stuck
def TF.bind (t : TF β σ ρ ε) (f : σ → TF β σ' ρ ε) : TF β σ' ρ ε := match t with
  | .nx s => f s
  | .bk s => .bk s
  | .ct s => .ct s
  | .rt r => .rt r
  | .rs x e => .rs x e
  | .stuck => .stuck
def TF.abs (t : TF β Empty ρ ε) : TF β σ ρ ε := t.bind fun e => e.elim
def Res.thn (r : Res α) (e : ε) (f : α → TF β σ ρ ε) : TF β σ ρ ε := match r with
  | .ok a => f a
  | .rs x => .rs x e
  | .stuck => .stuck
def tIf (e : ε) (c : Res Bool) (a b : TF β σ ρ ε) : TF β σ ρ ε := c.thn e fun x => if x = true then a else b
def tFor (b : σ → α → TF σ σ ρ ε) : List α → σ → TF β σ ρ ε
  | [], s => .nx s
  | a :: as, s => match b s a with
    | .nx s' => tFor b as s'
    | .ct s' => tFor b as s'
    | .bk s' => .nx s'
    | .rt r => .rt r
    | .rs x e => .rs x e
    | .stuck => .stuck
def tWh (c : σ → Res Bool) (b : σ → TF σ σ ρ ε) : Nat → σ → TF β σ ρ ε
  | 0, _ => .stuck
  | n + 1, s => match c s with
    | .ok false => .nx s
    | .ok true => match b s with
      | .nx s' => tWh c b n s'
      | .ct s' => tWh c b n s'
      | .bk s' => .nx s'
      | .rt r => .rt r
      | .rs x e => .rs x e
      | .stuck => .stuck
    | _ => .stuck
@[simp] theorem bind_nx (s : σ) (f : σ → TF β σ' ρ ε) : (TF.nx s : TF β σ ρ ε).bind f = f s := id rfl
@[simp] theorem bind_bk (s : β) (f : σ → TF β σ' ρ ε) : (TF.bk s : TF β σ ρ ε).bind f = .bk s := id rfl
@[simp] theorem bind_ct (s : β) (f : σ → TF β σ' ρ ε) : (TF.ct s : TF β σ ρ ε).bind f = .ct s := id rfl
@[simp] theorem bind_rt (s : ρ) (f : σ → TF β σ' ρ ε) : (TF.rt s : TF β σ ρ ε).bind f = .rt s := id rfl
@[simp] theorem bind_rse (x : Exc) (e : ε) (f : σ → TF β σ' ρ ε) : (TF.rs x e : TF β σ ρ ε).bind f = .rs x e := id rfl
@[simp] theorem bind_stk (f : σ → TF β σ' ρ ε) : (TF.stuck : TF β σ ρ ε).bind f = .stuck := id rfl
@[simp] theorem abs_bk (s : β) : (TF.bk s : TF β Empty ρ ε).abs = (.bk s : TF β σ ρ ε) := id rfl
@[simp] theorem abs_ct (s : β) : (TF.ct s : TF β Empty ρ ε).abs = (.ct s : TF β σ ρ ε) := id rfl
@[simp] theorem abs_rt (s : ρ) : (TF.rt s : TF β Empty ρ ε).abs = (.rt s : TF β σ ρ ε) := id rfl
@[simp] theorem abs_rs (x : Exc) (e : ε) : (TF.rs x e : TF β Empty ρ ε).abs = (.rs x e : TF β σ ρ ε) := id rfl
@[simp] theorem abs_stk : (TF.stuck : TF β Empty ρ ε).abs = (.stuck : TF β σ ρ ε) := id rfl
@[simp] theorem abs_if (c : Prop) [Decidable c] (a b : TF β Empty ρ ε) : (if c then a else b).abs = (if c then a.abs else b.abs : TF β σ ρ ε) := by split <;> rfl
@[simp] theorem thn_ok (a : α) (e : ε) (f : α → TF β σ ρ ε) : (Res.ok a).thn e f = f a := id rfl
@[simp] theorem thn_rs (x : Exc) (e : ε) (f : α → TF β σ ρ ε) : (Res.rs x : Res α).thn e f = .rs x e := id rfl
@[simp] theorem thn_stk (e : ε) (f : α → TF β σ ρ ε) : (Res.stuck : Res α).thn e f = .stuck := id rfl
@[simp] theorem tIf_ok (e : ε) (c : Bool) (a b : TF β σ ρ ε) : tIf e (.ok c) a b = if c = true then a else b := id rfl
@[simp] theorem tIf_rs (e : ε) (x : Exc) (a b : TF β σ ρ ε) : tIf e (.rs x) a b = .rs x e := id rfl
@[simp] theorem bind_ite (c : Prop) [Decidable c] (a b : TF β σ ρ ε) (f : σ → TF β σ' ρ ε) : (if c then a else b).bind f = if c then a.bind f else b.bind f := by split <;> rfl
@[simp] theorem tFor_nil (b : σ → α → TF σ σ ρ ε) (s : σ) : (tFor b [] s : TF β σ ρ ε) = .nx s := id rfl

/-- what is wanted of an env where a def goes on, gives back, raises -/
structure Kn (β ρ ε : Type) where
  b : β → Env
  r : ρ → R → Env → Prop
  x : ε → Env → Prop
def JS (K : Kn β ρ ε) (m : Env → Fl) (E : Env) (t : TF β σ ρ ε) (En : σ → Env) : Prop := match t with
  | .nx s => m E = .nx (En s)
  | .bk s => m E = .bk (K.b s)
  | .ct s => m E = .ct (K.b s)
  | .rt r => ∃ R e, m E = .rt R e ∧ K.r r R e
  | .rs x e => ∃ e', m E = .rs x e' ∧ K.x e e'
  | .stuck => True
section
variable {K : Kn β ρ ε} {E : Env} {En : σ → Env} {En' : σ' → Env} {ma mb mc : Env → Res P} {mf mg mr : Env → Fl} {t : TF β σ ρ ε} {i : Nat} {ee : ε}
theorem js_nil {s : σ} (h : E = En s) : JS K sNil E (.nx s) En := by show sNil E = _; rw [h]; rfl
theorem js_wp (ws : List Nat) {m : Env → Fl} (h : JS K m (wipeE E ws) t En) (hw : ws.all (fun i => free? E i) = true := by rfl) : JS K (sWp ws m) E t En := by
  have e : sWp ws m E = m (wipeE E ws) := if_pos hw
  unfold JS at h ⊢
  rw [e]; exact h
theorem js_env {m : Env → Fl} {E' : Env} (h : JS K m E' t En) (e : E = E' := by rfl) : JS K m E t En := by rw [e]; exact h
theorem js_seq {f : σ → TF β σ' ρ ε} (ha : JS K mf E t En) (hb : ∀ s, JS K mg (En s) (f s) En') : JS K (sSeq mf mg) E (t.bind f) En' := by
  cases t with
  | nx s =>
    have ha : mf E = .nx (En s) := ha
    have hb := hb s
    have e : sSeq mf mg E = mg (En s) := by unfold sSeq; rw [ha]
    show JS K _ E (f s) En'
    unfold JS at hb ⊢
    rw [e]; exact hb
  | bk s => show sSeq mf mg E = _; unfold sSeq; rw [show mf E = _ from ha]
  | ct s => show sSeq mf mg E = _; unfold sSeq; rw [show mf E = _ from ha]
  | rt r => obtain ⟨R, e, h1, h2⟩ := ha; exact ⟨R, e, by unfold sSeq; rw [h1], h2⟩
  | rs x e => obtain ⟨e', h1, h2⟩ := ha; exact ⟨e', by unfold sSeq; rw [h1], h2⟩
  | stuck => trivial
theorem js_abs {t : TF β Empty ρ ε} {E0 : Empty → Env} (h : JS K mf E t E0) : JS K mf E t.abs En := by
  cases t with
  | nx s => exact s.elim
  | bk s => exact h
  | ct s => exact h
  | rt r => exact h
  | rs x e => exact h
  | stuck => trivial
/-- a statement that begins with the value of an expression, then goes on -/
theorem js_thn {ta : Res α} {C : α → γ → Prop} {mo : Env → Res γ} {f : α → TF β σ ρ ε} (ha : J mo E ta C)
    (h1 : ∀ a p, C a p → mo E = .ok p → JS K mf E (f a) En) (h2 : ∀ x, mo E = .rs x → ∃ e', mf E = .rs x e' ∧ K.x ee e') : JS K mf E (ta.thn ee f) En := by
  cases ta with
  | ok a => obtain ⟨p, h3, h4⟩ := ha; exact h1 a p h4 h3
  | rs x => exact h2 x ha
  | stuck => trivial
theorem js_set {ta : Res α} {e : α → D} {f : α → TF β σ ρ ε} (ha : J ma E ta (qF e)) (hb : ∀ a, JS K mg (E.set i (.fz (e a))) (f a) En) (hf : free? E i = true := by rfl) (hx : K.x ee E := by exact rfl) : JS K (sSeq (sSet i ma) mg) E (ta.thn ee f) En :=
  js_thn ha (fun a p hp hm => by
    have e : sSeq (sSet i ma) mg E = mg (E.set i (.fz (e a))) := by
      unfold sSeq sSet
      rw [hm, show p = _ from hp]
      simp only [setP_fz, if_pos hf]
    have := hb a
    unfold JS at this ⊢
    rw [e]; exact this) fun x h => ⟨E, by unfold sSeq sSet; rw [h], hx⟩
theorem js_setA {ta : Res α} {e : α → D} {f : α → TF β σ ρ ε} (ha : J ma E ta (qA e)) (hb : ∀ a s, Rd s (e a) → JS K mg (E.set i s) (f a) En) (hf : free? E i = true := by rfl) (hx : K.x ee E := by exact rfl) : JS K (sSeq (sSet i ma) mg) E (ta.thn ee f) En :=
  js_thn ha (fun a p hp hm => by
    have e : ∃ s, Rd s (e a) ∧ sSeq (sSet i ma) mg E = mg (E.set i s) := by
      rcases hp with rfl | ⟨o, rfl, ho⟩
      · exact ⟨_, .inl rfl, by unfold sSeq sSet; rw [hm]; simp only [setP_fz, if_pos hf]⟩
      · exact ⟨_, .inr ⟨o, rfl, ho⟩, by unfold sSeq sSet setP; rw [hm]; simp only [if_pos hf]⟩
    obtain ⟨s, e1, e2⟩ := e
    have := hb a s e1
    unfold JS at this ⊢
    rw [e2]; exact this) fun x h => ⟨E, by unfold sSeq sSet; rw [h], hx⟩
theorem js_own {mo : Env → Res R} {ta : Res α} {eo : α → O} {f : α → TF β σ ρ ε} (ha : J mo E ta (qT eo)) (hb : ∀ a, JS K mg (E.set i (.ow (eo a))) (f a) En) (hf : free? E i = true := by rfl) (hx : K.x ee E := by exact rfl) : JS K (sSeq (sOwn i mo) mg) E (ta.thn ee f) En :=
  js_thn ha (fun a p hp hm => by
    have e : sSeq (sOwn i mo) mg E = mg (E.set i (.ow (eo a))) := by
      unfold sSeq sOwn
      rw [hm, show p = _ from hp]
      simp only [if_pos hf]
    have := hb a
    unfold JS at this ⊢
    rw [e]; exact this) fun x h => ⟨E, by unfold sSeq sOwn; rw [h], hx⟩
theorem js_exp {mo : Env → Res R} {ta : Res α} {C : α → R → Prop} {f : α → TF β σ ρ ε} (ha : J mo E ta C) (hb : ∀ a, JS K mg E (f a) En) (hx : K.x ee E := by exact rfl) : JS K (sSeq (sExp mo) mg) E (ta.thn ee f) En :=
  js_thn ha (fun a p hp hm => by
    have e : sSeq (sExp mo) mg E = mg E := by unfold sSeq sExp; rw [hm]
    have := hb a
    unfold JS at this ⊢
    rw [e]; exact this) fun x h => ⟨E, by unfold sSeq sExp; rw [h], hx⟩
def tApp (xs : List α) (a : α) : Res (List α) := if few (xs.length + 1) = true then .ok (xs ++ [a]) else .stuck
theorem tApp_ok {xs : List α} {a : α} (h : xs.length < 16777216) : tApp xs a = .ok (xs ++ [a]) := if_pos (few_iff.mpr (by omega))
def tAppn (xs : List α) (ta : Res α) : Res (List α) := ta.bind (tApp xs)
@[simp] theorem tAppn_ok (xs : List α) (a : α) : tAppn xs (.ok a) = tApp xs a := id rfl
theorem js_app {ta : Res α} {e : α → D} {xs : List α} {f : List α → TF β σ ρ ε} (hi : E[i]? = some (.ow (oL e xs))) (ha : J ma E ta (qF e)) (hb : ∀ ys, JS K mg (E.set i (.ow (oL e ys))) (f ys) En) (hx : K.x ee E := by exact rfl) : JS K (sSeq (sApp i ma) mg) E ((tAppn xs ta).thn ee f) En := by
  have hi : E[i]? = some (.ow (.lst (xs.map e))) := hi
  cases ta with
  | ok a =>
    obtain ⟨p, h1, h2⟩ := ha
    show JS K _ E ((tApp xs a).thn ee f) En
    unfold tApp
    by_cases hl' : few (xs.length + 1) = true
    · rw [if_pos hl']
      have hl : xs.length < 16777216 := by have := few_iff.mp hl'; omega
      have e : sSeq (sApp i ma) mg E = mg (E.set i (.ow (oL e (xs ++ [a])))) := by
        unfold sSeq sApp
        rw [hi, h1, show p = _ from h2]
        simp only [List.length_map, if_pos hl]
        unfold oL
        rw [List.map_append]; rfl
      have := hb (xs ++ [a])
      show JS K _ E (f (xs ++ [a])) En
      unfold JS at this ⊢
      rw [e]; exact this
    · rw [if_neg hl']; trivial
  | rs x => exact ⟨E, by unfold sSeq sApp; rw [hi, show ma E = _ from ha], hx⟩
  | stuck => trivial
def tSet (xs : List α) (k : Int) (a : α) : Res (List α) := Res.of ((L2.ixN xs.length k).map fun j => xs.set j a)
theorem tSet_ok {xs : List α} {k : Int} {j : Nat} {a : α} (hk : k = (j : Int)) (hj : j < xs.length) : tSet xs k a = .ok (xs.set j a) := by
  unfold tSet L2.ixN
  rw [hk, if_pos (by omega), if_pos (by omega)]
  simp
def tItm (xs : List α) (tk : Res Int) (ta : Res α) : Res (List α) := ta.bind fun a => tk.bind fun k => tSet xs k a
@[simp] theorem tItm_ok (xs : List α) (k : Int) (a : α) : tItm xs (.ok k) (.ok a) = tSet xs k a := id rfl
theorem js_it {ta : Res α} {tk : Res Int} {e : α → D} {xs : List α} {f : List α → TF β σ ρ ε} (hi : E[i]? = some (.ow (oL e xs))) (hk : J mb E tk (qF D.int)) (ha : J ma E ta (qF e)) (hb : ∀ ys, JS K mg (E.set i (.ow (oL e ys))) (f ys) En) (hx : K.x ee E := by exact rfl) : JS K (sSeq (sIt i mb ma) mg) E ((tItm xs tk ta).thn ee f) En := by
  have hi : E[i]? = some (.ow (.lst (xs.map e))) := hi
  cases ta with
  | ok a =>
    obtain ⟨p, h1, h2⟩ := ha
    cases tk with
    | ok k =>
      obtain ⟨q, h3, h4⟩ := hk
      show JS K _ E ((tSet xs k a).thn ee f) En
      unfold tSet
      cases hj : L2.ixN xs.length k with
      | none => trivial
      | some j =>
        have e : sSeq (sIt i mb ma) mg E = mg (E.set i (.ow (oL e (xs.set j a)))) := by
          unfold sSeq sIt
          rw [hi, h1, h3, show p = _ from h2, show q = _ from h4]
          simp only [bind_ok, int?_fz]
          unfold setD
          rw [List.length_map, hj]
          simp only [Option.map_some, of_some]
          unfold oL
          rw [List.map_set]
        have := hb (xs.set j a)
        show JS K _ E (f (xs.set j a)) En
        unfold JS at this ⊢
        rw [e]; exact this
    | rs x => exact ⟨E, by unfold sSeq sIt; rw [hi, h1, show mb E = _ from hk]; rfl, hx⟩
    | stuck => trivial
  | rs x => exact ⟨E, by unfold sSeq sIt; rw [hi, show ma E = _ from ha]; rfl, hx⟩
  | stuck => trivial
def tAug (f : Int → Int → Int) (xs : List Int) (k : Int) (z : Int) : Res (List Int) := if 0 ≤ k then (match xs[k.toNat]? with
  | some w => .ok (xs.set k.toNat (f w z))
  | none => .stuck) else .stuck
theorem tAug_ok {f : Int → Int → Int} {xs : List Int} {k z w : Int} {j : Nat} (hk : k = (j : Int)) (hj : xs[j]? = some w) : tAug f xs k z = .ok (xs.set j (f w z)) := by
  unfold tAug
  rw [hk, if_pos (by omega), Int.toNat_natCast, hj]
def tAugI (g : Int → Int → Int) (xs : List Int) (tk ta : Res Int) : Res (List Int) := tk.bind fun k => (if 0 ≤ k ∧ k.toNat < xs.length then ta else .stuck).bind fun z => tAug g xs k z
theorem tAugI_ok {g : Int → Int → Int} {xs : List Int} {k z w : Int} {j : Nat} (hk : k = (j : Int)) (hj : xs[j]? = some w) : tAugI g xs (.ok k) (.ok z) = .ok (xs.set j (g w z)) := by
  have := (List.getElem?_eq_some_iff.mp hj).1
  unfold tAugI
  rw [bind_ok, if_pos ⟨by omega, by omega⟩, bind_ok, tAug_ok hk hj]
theorem js_augI {ta tk : Res Int} {g : Int → Int → Int} {xs : List Int} {f : List Int → TF β σ ρ ε} (hi : E[i]? = some (.ow (oL D.int xs))) (hk : J mb E tk (qF D.int)) (ha : J ma E ta (qF D.int)) (hb : ∀ ys, JS K mg (E.set i (.ow (oL D.int ys))) (f ys) En) (hx : K.x ee E := by exact rfl) : JS K (sSeq (sAugI g i mb ma) mg) E ((tAugI g xs tk ta).thn ee f) En := by
  have hi : E[i]? = some (.ow (.lst (xs.map D.int))) := hi
  cases tk with
  | ok k =>
    obtain ⟨q, h3, h4⟩ := hk
    show JS K _ E (((if 0 ≤ k ∧ k.toNat < xs.length then ta else .stuck).bind fun z => tAug g xs k z).thn ee f) En
    by_cases hc : 0 ≤ k ∧ k.toNat < xs.length
    · rw [if_pos hc]
      have hx2 : xs[k.toNat]? = some xs[k.toNat] := List.getElem?_eq_getElem hc.2
      have ag : augAt (xs.map D.int) (.fz (.int k)) = some (k.toNat, xs[k.toNat]) := augAt_at (by omega) (by rw [List.getElem?_map, hx2]; rfl)
      cases ta with
      | ok a =>
        obtain ⟨p, h1, h2⟩ := ha
        show JS K _ E ((tAug g xs k a).thn ee f) En
        rw [tAug_ok (j := k.toNat) (by omega) hx2]
        have e : sSeq (sAugI g i mb ma) mg E = mg (E.set i (.ow (oL D.int (xs.set k.toNat (g xs[k.toNat] a))))) := by
          unfold sSeq sAugI
          rw [hi, h1, h3, show p = _ from h2, show q = _ from h4]
          simp only [ag, int?_fz]
          unfold oL
          rw [List.map_set]
        have := hb (xs.set k.toNat (g xs[k.toNat] a))
        show JS K _ E (f _) En
        unfold JS at this ⊢
        rw [e]; exact this
      | rs x => exact ⟨E, by unfold sSeq sAugI; rw [hi, h3, show q = _ from h4]; simp only [ag, show ma E = _ from ha], hx⟩
      | stuck => trivial
    · rw [if_neg hc]; trivial
  | rs x => exact ⟨E, by unfold sSeq sAugI; rw [hi, show mb E = _ from hk], hx⟩
  | stuck => trivial
theorem js_aug {ta : Res Int} {w : Int} {g : Int → Int → Int} {f : Int → TF β σ ρ ε} (hi : E[i]? = some (.fz (.int w))) (ha : J ma E ta (qF D.int)) (hb : ∀ z, JS K mg (E.set i (.fz (.int z))) (f z) En) (hx : K.x ee E := by exact rfl) : JS K (sSeq (sAug g i ma) mg) E ((ta.map fun z => g w z).thn ee f) En := by
  cases ta with
  | ok a =>
    obtain ⟨p, h1, h2⟩ := ha
    have e : sSeq (sAug g i ma) mg E = mg (E.set i (.fz (.int (g w a)))) := by
      unfold sSeq sAug
      rw [hi, h1, show p = _ from h2]
      rfl
    have := hb (g w a)
    show JS K _ E (f _) En
    unfold JS at this ⊢
    rw [e]; exact this
  | rs x => exact ⟨E, by unfold sSeq sAug; rw [hi, show ma E = _ from ha], hx⟩
  | stuck => trivial
@[irreducible] def popOk (k : Int) : Bool := decide (-9223372036854775808 ≤ k ∧ k < 9223372036854775808)
theorem popOk_iff {k : Int} : popOk k = true ↔ (-9223372036854775808 ≤ k ∧ k < 9223372036854775808) := by unfold popOk; simp
def tPopAt (xs : List α) (k : Int) : Res (α × List α) := if popOk k = true then (match seqIndex? k xs.length with
  | some n => match xs[n]? with
    | some a => .ok (a, xs.eraseIdx n)
    | none => .stuck
  | none => .stuck) else .stuck
theorem tPopAt_ok {xs : List α} {k : Int} {n : Nat} {a : α} (hk : k = (n : Int)) (hn : (n : Int) < 9223372036854775808) (h : xs[n]? = some a) : tPopAt xs k = .ok (a, xs.eraseIdx n) := by
  have hl := (List.getElem?_eq_some_iff.mp h).1
  have hs : seqIndex? k xs.length = some n := by rw [hk, seqIndex_of (by omega) (by omega)]; simp
  unfold tPopAt
  rw [if_pos (popOk_iff.mpr ⟨by omega, by omega⟩), hs]
  simp only [h]
theorem erase_map {f : α → β} : ∀ (n : Nat) (xs : List α), (xs.map f).eraseIdx n = (xs.eraseIdx n).map f
  | _, [] => by simp
  | 0, x :: xs => rfl
  | n + 1, x :: xs => by show f x :: (xs.map f).eraseIdx n = _; rw [erase_map n xs]; rfl
theorem js_popAt {tk : Res Int} {e : α → D} {j : Nat} {xs : List α} {f : α × List α → TF β σ ρ ε} (hi : E[i]? = some (.ow (oL e xs))) (hk : J ma E tk (qF D.int)) (hb : ∀ z : α × List α, JS K mg ((E.set i (.ow (oL e z.2))).set j (.fz (e z.1))) (f z) En) (hf : ∀ ys, free? (E.set i (.ow (oL e ys))) j = true := by exact fun _ => rfl) (hx : K.x ee E := by exact rfl) : JS K (sSeq (sPopAt j i ma) mg) E ((tk.bind (tPopAt xs)).thn ee f) En := by
  have hi : E[i]? = some (.ow (.lst (xs.map e))) := hi
  cases tk with
  | ok k =>
    obtain ⟨p, h1, h2⟩ := hk
    show JS K _ E ((tPopAt xs k).thn ee f) En
    unfold tPopAt
    by_cases hb2 : popOk k = true
    · rw [if_pos hb2]
      have hb1 := popOk_iff.mp hb2
      cases hs : seqIndex? k xs.length with
      | none => trivial
      | some n =>
        simp only
        cases ha : xs[n]? with
        | none => trivial
        | some a =>
          have e : sSeq (sPopAt j i ma) mg E = mg ((E.set i (.ow (oL e (xs.eraseIdx n)))).set j (.fz (e a))) := by
            unfold sSeq sPopAt
            have e2 : (xs.map e).eraseIdx n = (xs.eraseIdx n).map e := erase_map n xs
            rw [hi, h1, show p = _ from h2]
            simp only [List.length_map, if_pos hb1, hs, List.getElem?_map, ha, Option.map_some, e2]
            have := hf (xs.eraseIdx n)
            have this : free? (E.set i (.ow (.lst ((xs.eraseIdx n).map e)))) j = true := this
            rw [setP_fz, if_pos this]
            rfl
          have := hb (a, xs.eraseIdx n)
          show JS K _ E (f _) En
          unfold JS at this ⊢
          rw [e]; exact this
    · rw [if_neg hb2]; trivial
  | rs x => exact ⟨E, by unfold sSeq sPopAt; rw [hi, show ma E = _ from hk], hx⟩
  | stuck => trivial
theorem js_unp {ta : Res α} {e : α → D} {g : D → Env → Option Env} {Eg : α → Env} {f : α → TF β σ ρ ε} (ha : J ma E ta (qF e)) (hg : ∀ a, g (e a) E = some (Eg a)) (hb : ∀ a, JS K mg (Eg a) (f a) En) (hx : K.x ee E := by exact rfl) : JS K (sSeq (sUnp g ma) mg) E (ta.thn ee f) En :=
  js_thn ha (fun a p hp hm => by
    have e : sSeq (sUnp g ma) mg E = mg (Eg a) := by unfold sSeq sUnp; rw [hm, show p = _ from hp]; simp only [hg a]
    have := hb a
    unfold JS at this ⊢
    rw [e]; exact this) fun x h => ⟨E, by unfold sSeq sUnp; rw [h], hx⟩
theorem js_cold {a : α} {eo : α → O} {e : α → D} (hi : E[i]? = some (.ow (eo a))) (hb : JS K mg (E.set i (.fz (e a))) t En) (hc : (eo a).cold = e a := by exact rfl) : JS K (sCold i mg) E t En := by
  have e : sCold i mg E = mg (E.set i (.fz (e a))) := by unfold sCold; rw [hi]; simp only [hc]
  unfold JS at hb ⊢
  rw [e]; exact hb
theorem js_if {c : Env → Res Bool} {tc : Res Bool} {ta tb : TF β σ ρ ε} (hc : J c E tc qB) (ha : JS K mf E ta En) (hb : JS K mg E tb En) (hx : K.x ee E := by exact rfl) : JS K (sIf c mf mg) E (tIf ee tc ta tb) En :=
  js_thn hc (fun a p hp hm => by
    have hp : p = a := hp
    subst hp
    cases p with
    | true =>
      have e : sIf c mf mg E = mf E := by unfold sIf; rw [hm]; rfl
      show JS K _ E ta En
      unfold JS at ha ⊢
      rw [e]; exact ha
    | false =>
      have e : sIf c mf mg E = mg E := by unfold sIf; rw [hm]; rfl
      show JS K _ E tb En
      unfold JS at hb ⊢
      rw [e]; exact hb) fun x h => ⟨E, by unfold sIf; rw [h], hx⟩
/-- if c: (a suite that does not go on); then the rest -/
theorem js_ifT {c : Env → Res Bool} {tc : Res Bool} {ta : TF β Empty ρ ε} {tb : TF β σ ρ ε} {E0 : Empty → Env} (hc : J c E tc qB) (ha : JS K mf E ta E0) (hb : JS K mg E tb En) (hx : K.x ee E := by exact rfl) : JS K (sSeq (sIf c mf sNil) mg) E (tIf ee tc ta.abs tb) En := by
  have hn : ta ≠ .stuck → ∀ e, mf E ≠ .nx e := fun hs e z => by
    cases ta with
    | nx s => exact s.elim
    | bk s => rw [show mf E = _ from ha] at z; cases z
    | ct s => rw [show mf E = _ from ha] at z; cases z
    | rt r => obtain ⟨_, _, h1, _⟩ := ha; rw [h1] at z; cases z
    | rs x e => obtain ⟨_, h1, _⟩ := ha; rw [h1] at z; cases z
    | stuck => exact hs rfl
  cases tc with
  | stuck => trivial
  | rs x =>
    have hcc : c E = .rs x := hc
    exact ⟨E, by unfold sSeq sIf; rw [hcc], hx⟩
  | ok b =>
    obtain ⟨p, hcc, hp⟩ := hc
    have hp : p = b := hp
    subst hp
    cases p with
    | false =>
      have e : sSeq (sIf c mf sNil) mg E = mg E := by unfold sSeq sIf sNil; rw [hcc]; rfl
      show JS K _ E tb En
      unfold JS at hb ⊢
      rw [e]; exact hb
    | true =>
      show JS K _ E ta.abs En
      have ha' := js_abs (En := En) ha
      by_cases hs : ta = .stuck
      · rw [hs]; trivial
      · have e : sSeq (sIf c mf sNil) mg E = mf E := by
          unfold sSeq sIf; rw [hcc]; simp only [if_true]
          cases hm : mf E with
          | nx e => exact absurd hm (hn hs e)
          | _ => rfl
        unfold JS at ha' ⊢
        rw [e]; exact ha'
theorem forD_as {e : α → D} {g : D → Env → Option Env} {Em : σ → Env} {Eg : σ → α → Env} {tb : σ → α → TF σ σ ρ ε} (hg : ∀ s a, g (e a) (Em s) = some (Eg s a))
    (hb : ∀ s a, JS ⟨Em, K.r, K.x⟩ mf (Eg s a) (tb s a) Em) : ∀ (xs : List α) (s : σ), JS K (forD g mf (xs.map e)) (Em s) (tFor tb xs s) Em
  | [], s => rfl
  | a :: as, s => by
    have h := hb s a
    have e : forD g mf ((a :: as).map e) (Em s) = match mf (Eg s a) with
      | .nx e' => forD g mf (as.map e) e'
      | .ct e' => forD g mf (as.map e) e'
      | .bk e' => .nx e'
      | .rt r e' => .rt r e'
      | .rs x e' => .rs x e'
      | .stuck => .stuck := by
      rw [List.map_cons]
      show forD g mf (e a :: as.map e) (Em s) = _
      rw [forD, hg s a]
      try (cases hm : mf (Eg s a) <;> simp only [hm])
    unfold tFor
    cases ht : tb s a with
    | nx s' =>
      rw [ht] at h
      have h : mf (Eg s a) = .nx (Em s') := h
      rw [h] at e
      have := forD_as hg hb as s'
      show JS K _ _ (tFor tb as s') Em
      unfold JS at this ⊢
      rw [e]; exact this
    | ct s' =>
      rw [ht] at h
      have h : mf (Eg s a) = .ct (Em s') := h
      rw [h] at e
      have := forD_as hg hb as s'
      show JS K _ _ (tFor tb as s') Em
      unfold JS at this ⊢
      rw [e]; exact this
    | bk s' =>
      rw [ht] at h
      have h : mf (Eg s a) = .bk (Em s') := h
      rw [h] at e
      exact e
    | rt r =>
      rw [ht] at h
      obtain ⟨R, e', h1, h2⟩ := h
      rw [h1] at e
      exact ⟨R, e', e, h2⟩
    | rs x ee =>
      rw [ht] at h
      obtain ⟨e', h1, h2⟩ := h
      rw [h1] at e
      exact ⟨e', e, h2⟩
    | stuck => trivial
theorem js_for0 {m : Env → Fl} {e : α → D} {g : D → Env → Option Env} {ta : Res (List α)} (Em : σ → Env) {Eg : σ → α → Env} (s0 : σ) {tb : σ → α → TF σ σ ρ ε} {f : σ → TF β σ' ρ ε} 
    (h1 : ∀ xs, ta = .ok xs → m E = forD g mf (xs.map e) E) (h2 : ∀ x, ta = .rs x → m E = .rs x E) (h0 : E = Em s0) (hg : ∀ s a, g (e a) (Em s) = some (Eg s a))
    (hb : ∀ s a, JS ⟨Em, K.r, K.x⟩ mf (Eg s a) (tb s a) Em) (hr : ∀ s, JS K mr (Em s) (f s) En') (hx : K.x ee E) : JS K (sSeq m mr) E (ta.thn ee fun xs => (tFor tb xs s0).bind f) En' := by
  cases ta with
  | stuck => trivial
  | rs x => exact ⟨E, by unfold sSeq; rw [h2 x rfl], hx⟩
  | ok xs =>
    refine js_seq (En := Em) ?_ hr
    have := forD_as hg hb xs s0
    have e := h1 xs rfl
    rw [← h0] at this
    unfold JS at this ⊢
    rw [e]; exact this
theorem js_forL {e : α → D} {g : D → Env → Option Env} {ta : Res (List α)} (Em : σ → Env) {Eg : σ → α → Env} (s0 : σ) {tb : σ → α → TF σ σ ρ ε} {f : σ → TF β σ' ρ ε} (ha : J ma E ta (qA (eL e)))
    (hg : ∀ s a, g (e a) (Em s) = some (Eg s a)) (hb : ∀ s a, JS ⟨Em, K.r, K.x⟩ mf (Eg s a) (tb s a) Em) (hr : ∀ s, JS K mr (Em s) (f s) En') (h0 : E = Em s0 := by rfl) (hx : K.x ee E := by exact rfl) : JS K (sSeq (sFor P.it? ma g mf) mr) E (ta.thn ee fun xs => (tFor tb xs s0).bind f) En' :=
  js_for0 Em s0 (fun xs h => by
    subst h
    obtain ⟨p, h1, h2⟩ := ha
    unfold sFor
    rw [h1]
    simp only [it_A h2]) (fun x h => by subst h; unfold sFor; rw [show ma E = _ from ha]) h0 hg hb hr hx
theorem js_forT {e : α → D} {g : D → Env → Option Env} {ta : Res (List α)} (Em : σ → Env) {Eg : σ → α → Env} (s0 : σ) {tb : σ → α → TF σ σ ρ ε} {f : σ → TF β σ' ρ ε} (ha : J ma E ta (qC (eS e)))
    (hg : ∀ s a, g (e a) (Em s) = some (Eg s a)) (hb : ∀ s a, JS ⟨Em, K.r, K.x⟩ mf (Eg s a) (tb s a) Em) (hr : ∀ s, JS K mr (Em s) (f s) En') (h0 : E = Em s0 := by rfl) (hx : K.x ee E := by exact rfl) : JS K (sSeq (sFor P.tup? ma g mf) mr) E (ta.thn ee fun xs => (tFor tb xs s0).bind f) En' :=
  js_for0 Em s0 (fun xs h => by
    subst h
    obtain ⟨p, h1, h2⟩ := ha
    unfold sFor
    rw [h1, tup_cd (show p.cd = .tup (xs.map e) from h2)]
    rfl) (fun x h => by subst h; unfold sFor; rw [show ma E = _ from ha]) h0 hg hb hr hx
theorem js_forR {k : List P → Option (Int × Nat)} {ml : Env → Res (List P)} {g : D → Env → Option Env} {ta : Res (List Int)} (Em : σ → Env) {Eg : σ → Int → Env} (s0 : σ) {tb : σ → Int → TF σ σ ρ ε} {f : σ → TF β σ' ρ ε} (ha : J (oneA k ml) E ta qR)
    (hg : ∀ s (a : Int), g (.int a) (Em s) = some (Eg s a)) (hb : ∀ s a, JS ⟨Em, K.r, K.x⟩ mf (Eg s a) (tb s a) Em) (hr : ∀ s, JS K mr (Em s) (f s) En') (h0 : E = Em s0 := by rfl) (hx : K.x ee E := by exact rfl) : JS K (sSeq (sForR k ml g mf) mr) E (ta.thn ee fun xs => (tFor tb xs s0).bind f) En' :=
  js_for0 (e := D.int) Em s0 (fun xs h => by
    subst h
    obtain ⟨p, h1, h2⟩ := ha
    unfold sForR
    rw [h1]
    show forD g mf (rngD p.1 p.2) E = _
    rw [show rngD p.1 p.2 = _ from h2]) (fun x h => by subst h; unfold sForR; rw [show oneA k ml E = _ from ha]) h0 hg hb hr hx
theorem whD_as {c : Env → Res Bool} {Em : σ → Env} {tc : σ → Res Bool} {tb : σ → TF σ σ ρ ε} (hc : ∀ s, J c (Em s) (tc s) qB) (hb : ∀ s, JS ⟨Em, K.r, K.x⟩ mf (Em s) (tb s) Em) : ∀ (n : Nat) (s : σ), JS K (whD c mf n) (Em s) (tWh tc tb n s) Em
  | 0, s => trivial
  | n + 1, s => by
    have h := hc s
    have h' := hb s
    unfold tWh
    cases ht : tc s with
    | stuck => trivial
    | rs x => trivial
    | ok b =>
      rw [ht] at h
      obtain ⟨p, h1, h2⟩ := h
      have h2 : p = b := h2
      subst h2
      cases p with
      | false => show whD c mf (n + 1) (Em s) = _; unfold whD; rw [h1]
      | true =>
        have e : whD c mf (n + 1) (Em s) = match mf (Em s) with
          | .nx e' => whD c mf n e'
          | .ct e' => whD c mf n e'
          | .bk e' => .nx e'
          | .rt r e' => .rt r e'
          | .rs x e' => .rs x e'
          | .stuck => .stuck := by
            rw [whD, h1]
            try (cases hm : mf (Em s) <;> simp only [hm])
        simp only
        cases hs : tb s with
        | nx s' =>
          rw [hs] at h'
          have h' : mf (Em s) = .nx (Em s') := h'
          rw [h'] at e
          have := whD_as hc hb n s'
          show JS K _ _ (tWh tc tb n s') Em
          unfold JS at this ⊢
          rw [e]; exact this
        | ct s' =>
          rw [hs] at h'
          have h' : mf (Em s) = .ct (Em s') := h'
          rw [h'] at e
          have := whD_as hc hb n s'
          show JS K _ _ (tWh tc tb n s') Em
          unfold JS at this ⊢
          rw [e]; exact this
        | bk s' =>
          rw [hs] at h'
          have h' : mf (Em s) = .bk (Em s') := h'
          rw [h'] at e
          exact e
        | rt r =>
          rw [hs] at h'
          obtain ⟨R, e', h1, h2⟩ := h'
          rw [h1] at e
          exact ⟨R, e', e, h2⟩
        | rs x ee =>
          rw [hs] at h'
          obtain ⟨e', h1, h2⟩ := h'
          rw [h1] at e
          exact ⟨e', e, h2⟩
        | stuck => trivial
theorem js_wh {n : Nat} {c : Env → Res Bool} (Em : σ → Env) (s0 : σ) {tc : σ → Res Bool} {tb : σ → TF σ σ ρ ε} {f : σ → TF β σ' ρ ε} (hc : ∀ s, J c (Em s) (tc s) qB) (hb : ∀ s, JS ⟨Em, K.r, K.x⟩ mf (Em s) (tb s) Em) (hr : ∀ s, JS K mr (Em s) (f s) En') (h0 : E = Em s0 := by rfl) : JS K (sSeq (whD c mf n) mr) E ((tWh tc tb n s0).bind f) En' := by
  refine js_seq (En := Em) ?_ hr
  have := whD_as (K := K) hc hb n s0
  rw [← h0] at this
  exact this
/-! where a suite ends -/
theorem js_ret {mo : Env → Res R} {ta : Res α} {C : α → R → Prop} (k : α → ρ) (ha : J mo E ta C) (h : ∀ a r, C a r → K.r (k a) r E) (hx : K.x ee E := by exact rfl) : JS K (sRet mo) E (ta.thn ee fun a => .rt (k a)) En :=
  js_thn ha (fun a p hp hm => ⟨p, E, by unfold sRet; rw [hm], h a p hp⟩) fun x h => ⟨E, by unfold sRet; rw [h], hx⟩
theorem js_retO {a : α} {eo : α → O} {r : ρ} (hi : E[i]? = some (.ow (eo a))) (h : K.r r (.tmp (eo a)) E) : JS K (sRetO i) E (.rt r) En := ⟨_, E, by unfold sRetO; rw [hi], h⟩
theorem js_retN {r : ρ} (h : K.r r (.fz .non) E) : JS K sRetN E (.rt r) En := ⟨_, E, rfl, h⟩
theorem js_raise {x : Str} (hx : K.x ee E := by exact rfl) : JS K (sRaise x) E (.rs ⟨x, none⟩ ee) En := ⟨E, rfl, hx⟩
theorem js_bk {s : β} (h : E = K.b s := by rfl) : JS K sBrk E (.bk s) En := by show sBrk E = _; rw [← h]; rfl
theorem js_ct {s : β} (h : E = K.b s := by rfl) : JS K sCnt E (.ct s) En := by show sCnt E = _; rw [← h]; rfl
end
/-! whole defs -/
def TF.res (t : TF β σ ρ ε) : Res ρ := match t with
  | .rt r => .ok r
  | .rs x _ => .rs x
  | _ => .stuck
def TF.resN (t : TF β σ Unit ε) : Res Unit := match t with
  | .nx _ => .ok ()
  | .rt r => .ok r
  | .rs x _ => .rs x
  | _ => .stuck
def TF.resI (t : TF β σ ρ ε) : Res σ := match t with
  | .nx s => .ok s
  | .rs x _ => .rs x
  | _ => .stuck
@[simp] theorem res_rt (r : ρ) : (TF.rt r : TF β σ ρ ε).res = .ok r := id rfl
@[simp] theorem res_rs (x : Exc) (e : ε) : (TF.rs x e : TF β σ ρ ε).res = .rs x := id rfl
@[simp] theorem res_stk : (TF.stuck : TF β σ ρ ε).res = .stuck := id rfl
@[simp] theorem res_ite (c : Prop) [Decidable c] (a b : TF β σ ρ ε) : (if c then a else b).res = if c then a.res else b.res := by split <;> rfl
@[simp] theorem resN_nx (s : σ) : (TF.nx s : TF β σ Unit ε).resN = .ok () := id rfl
@[simp] theorem resN_rt (r : Unit) : (TF.rt r : TF β σ Unit ε).resN = .ok r := id rfl
@[simp] theorem resN_rs (x : Exc) (e : ε) : (TF.rs x e : TF β σ Unit ε).resN = .rs x := id rfl
@[simp] theorem resN_stk : (TF.stuck : TF β σ Unit ε).resN = .stuck := id rfl
@[simp] theorem resN_ite (c : Prop) [Decidable c] (a b : TF β σ Unit ε) : (if c then a else b).resN = if c then a.resN else b.resN := by split <;> rfl
@[simp] theorem resI_nx (s : σ) : (TF.nx s : TF β σ ρ ε).resI = .ok s := id rfl
@[simp] theorem resI_rs (x : Exc) (e : ε) : (TF.rs x e : TF β σ ρ ε).resI = .rs x := id rfl
@[simp] theorem resI_stk : (TF.stuck : TF β σ ρ ε).resI = .stuck := id rfl
@[simp] theorem resI_ite (c : Prop) [Decidable c] (a b : TF β σ ρ ε) : (if c then a else b).resI = if c then a.resI else b.resI := by split <;> rfl
def kD (Cr : ρ → R → Prop) : Kn Unit ρ Unit := ⟨fun _ => [], fun r R _ => Cr r R, fun _ _ => (() = ())⟩
theorem run_res {np n : Nat} {m : Env → Fl} {ss : List S} {E : Env} {t : TF Unit Empty ρ Unit} {E0 : Empty → Env} {Cr : ρ → R → Prop} (hl : ss.length = np) (hn : np ≤ n) (hE : ss ++ List.replicate (n - np) .un = E) (nb : NB Cr) (h : JS (kD Cr) m E t E0) :
    ansF Cr t.res (runF np n m ss) := by
  cases t with
  | nx s => exact s.elim
  | bk s => trivial
  | ct s => trivial
  | rt r =>
    obtain ⟨R, e, h1, h2⟩ := h
    refine ⟨R, outOf e, ?_, h2⟩
    unfold runF
    rw [if_pos ⟨hl, hn⟩, hE, h1]
    cases R with
    | bor l o => exact absurd h2 (nb _ _ _)
    | fz d => rfl
    | tmp o => rfl
  | rs x ee =>
    obtain ⟨e, h1, h2⟩ := h
    refine ⟨outOf e, ?_⟩
    unfold runF
    rw [if_pos ⟨hl, hn⟩, hE, h1]
  | stuck => trivial
theorem run_resN {np n : Nat} {m : Env → Fl} {ss : List S} {E : Env} {t : TF Unit σ Unit Unit} {E0 : σ → Env} (hl : ss.length = np) (hn : np ≤ n) (hE : ss ++ List.replicate (n - np) .un = E) (h : JS (kD (qN eN)) m E t E0) :
    ansF (qN eN) t.resN (runF np n m ss) := by
  cases t with
  | nx s =>
    refine ⟨.fz .non, outOf (E0 s), ?_, rfl⟩
    unfold runF
    rw [if_pos ⟨hl, hn⟩, hE, show m E = _ from h]
  | bk s => trivial
  | ct s => trivial
  | rt r =>
    obtain ⟨R, e, h1, h2⟩ := h
    refine ⟨R, outOf e, ?_, h2⟩
    unfold runF
    rw [if_pos ⟨hl, hn⟩, hE, h1]
    cases R with
    | bor l o => exact absurd h2 (nb_N _ _ _)
    | fz d => rfl
    | tmp o => rfl
  | rs x ee =>
    obtain ⟨e, h1, h2⟩ := h
    refine ⟨outOf e, ?_⟩
    unfold runF
    rw [if_pos ⟨hl, hn⟩, hE, h1]
  | stuck => trivial
theorem run_resI {np n : Nat} {m : Env → Fl} {ss : List S} {E : Env} {t : TF Unit κ Unit Unit} {E0 : κ → Env} {eo : κ → O} (hl : ss.length = np) (hn : np ≤ n) (hE : ss ++ List.replicate (n - np) .un = E) (h : JS (kD (fun _ _ => False)) m E t E0) (ho : ∀ v, outOf (E0 v) = some (eo v)) :
    ansI eo t.resI (runF np n m ss) := by
  cases t with
  | nx s =>
    show runF np n m ss = _
    unfold runF
    rw [if_pos ⟨hl, hn⟩, hE, show m E = _ from h]
    simp only [ho]
  | bk s => trivial
  | ct s => trivial
  | rt r => trivial
  | rs x ee =>
    obtain ⟨e, h1, h2⟩ := h
    refine ⟨outOf e, ?_⟩
    unfold runF
    rw [if_pos ⟨hl, hn⟩, hE, h1]
  | stuck => trivial
end RC

set_option Elab.async false
set_option linter.all false
set_option maxRecDepth 100000
set_option maxHeartbeats 1000000
/-! T6: data read as of another form; objects; what is caught. -/
namespace RC
open PySem PySem.Spec PyProof.Rows L2
variable {α β γ σ σ' τ ρ ε κ : Type}
section
variable {E : Env} {ma mb mc : Env → Res P} {mo : Env → Res R} {ta : Res α} {e : α → D} {e' : β → D}
theorem j_cvF (f : α → β) (h : ∀ a, e a = e' (f a)) (ha : J ma E ta (qF e)) : J ma E (ta.map f) (qF e') := ha.mapl fun a p q => by rw [show p = _ from q, h]; rfl
theorem j_cvC (f : α → β) (h : ∀ a, e a = e' (f a)) (ha : J ma E ta (qC e)) : J ma E (ta.map f) (qC e') := ha.mapl fun a p q => by show p.cd = _; rw [show p.cd = _ from q, h]
theorem j_cvA (f : α → β) (h : ∀ a, e a = e' (f a)) (ha : J ma E ta (qA e)) : J ma E (ta.map f) (qA e') := ha.mapl fun a p q => by
  rcases q with rfl | ⟨o, rfl, ho⟩
  · exact .inl (by rw [h])
  · exact .inr ⟨o, rfl, by rw [ho, h]⟩
theorem j_cvN (f : α → β) (h : ∀ a, e a = e' (f a)) (ha : J mo E ta (qN e)) : J mo E (ta.map f) (qN e') := ha.mapl fun a p q => by show p.op = _; rw [show p.op = _ from q, h]
theorem j_cvT {eo : α → O} {eo' : β → O} (f : α → β) (h : ∀ a, eo a = eo' (f a)) (ha : J mo E ta (qT eo)) : J mo E (ta.map f) (qT eo') := ha.mapl fun a p q => by show p = _; rw [show p = _ from q, h]
theorem isO_C {n m : Str} (h : ∀ a, isObjD n m (e a) = true) : ∀ a p, qC e a p → isObj n m p = true := fun a p q => isObj_cd (by rw [show p.cd = _ from q]; exact h a)
theorem isO_F {n m : Str} (h : ∀ a, isObjD n m (e a) = true) : ∀ a p, qF e a p → isObj n m p = true := fun a p q => isO_C h a p (FC q)
theorem isO_A {n m : Str} (h : ∀ a, isObjD n m (e a) = true) : ∀ a p, qA e a p → isObj n m p = true := fun a p q => isO_C h a p (AC q)
theorem isO_x {n m : Str} {fs : List (Str × D)} (h : fs.map (·.1) = ks) (hm : m ∉ ks) : isObjD n m (.obj n fs) = true := by
  show (decide (n = n) && decide (m ∉ fs.map (·.1))) = true
  rw [h]; simp [hm]
theorem att_x {n f : Str} {fs : List (Str × D)} {d : D} (h : fs.lookup f = some d) : attD n f (.obj n fs) = some d := by
  show (if n = n then fs.lookup f else none) = _
  rw [if_pos rfl, h]
end
section
variable {K : Kn β ρ ε} {E : Env} {En : σ → Env} {ma : Env → Res P} {mg : Env → Fl} {t : TF β σ ρ ε} {i j : Nat} {ee : ε}
/-- a field is set of an object in the making -/
theorem js_att {n f : Str} {fs : List (Str × F)} {fs' : α → List (Str × F)} {ta : Res α} {e : α → D} {g : α → TF β σ ρ ε} (hi : E[i]? = some (.mu (.obj n fs))) (hl : fs.length < 1000) (ha : J ma E ta (qF e)) (hp : ∀ a, putFd f (.fz (e a)) fs = fs' a) (hb : ∀ a, JS K mg (E.set i (.mu (.obj n (fs' a)))) (g a) En) (hx : K.x ee E := by exact rfl) : JS K (sSeq (sAtt n f i ma) mg) E (ta.thn ee g) En :=
  js_thn ha (fun a p hpp hm => by
    have e : sSeq (sAtt n f i ma) mg E = mg (E.set i (.mu (.obj n (fs' a)))) := by
      rw [← hp]
      unfold sSeq sAtt
      rw [hi, hm, show p = _ from hpp]
      simp [hl]
    have := hb a
    unfold JS at this ⊢
    rw [e]; exact this) fun x h => ⟨E, by
      unfold sSeq sAtt; rw [hi, h]; simp [hl], hx⟩
/-- what is raised and caught, looked at -/
def tTry {εs : Type} (ring : Str → Option Bool) (seen : Str → Option (List Bool)) (t : TF β σ ρ εs) (h : εs → List Bool → σ) : TF β σ ρ ε := match t with
  | .nx s => .nx s
  | .bk s => .bk s
  | .ct s => .ct s
  | .rt r => .rt r
  | .rs x es => match ring x.cls, x.fs, seen x.cls with
    | some true, none, some bs => .nx (h es bs)
    | _, _, _ => .stuck
  | .stuck => .stuck
@[simp] theorem tTry_nx {εs : Type} (ring : Str → Option Bool) (seen : Str → Option (List Bool)) (s : σ) (h : εs → List Bool → σ) : (tTry ring seen (.nx s : TF β σ ρ εs) h : TF β σ ρ ε) = .nx s := id rfl
theorem tTry_rs {εs : Type} {ring : Str → Option Bool} {seen : Str → Option (List Bool)} {c : Str} {es : εs} {bs : List Bool} {h : εs → List Bool → σ} (h1 : ring c = some true) (h2 : seen c = some bs) : (tTry ring seen (.rs ⟨c, none⟩ es : TF β σ ρ εs) h : TF β σ ρ ε) = .nx (h es bs) := by
  unfold tTry; simp only [h1, h2]
theorem scal_bls : ∀ bs : List Bool, (bs.map D.bl).all scal = true
  | [] => rfl
  | b :: bs => by show (scal (.bl b) && (bs.map D.bl).all scal) = true; rw [scal_bls bs]; rfl
theorem js_try {εs : Type} {sb : Env → Fl} {ring : Str → Option Bool} {seen : Str → Option (List D)} {seenB : Str → Option (List Bool)} {tb : TF β σ ρ εs} (E0 : εs → Env) (h : εs → List Bool → σ) (hs : JS ⟨K.b, K.r, fun es e => e = E0 es⟩ sb E tb En)
    (hx : ∀ es bs, (E0 es).set j (.fz (eL D.bl bs)) = En (h es bs)) (hj : ∀ es, free? (E0 es) j = true) (hi : ∀ es, (E0 es)[i]? = some .un) (hij : i ≠ j) (hse : ∀ c, seen c = (seenB c).map fun bs => bs.map D.bl) : JS K (sTry sb j i ring seen) E (tTry ring seenB tb h) En := by
  cases tb with
  | nx s => show sTry sb j i ring seen E = _; unfold sTry; rw [show sb E = _ from hs]
  | bk s => show sTry sb j i ring seen E = _; unfold sTry; rw [show sb E = _ from hs]
  | ct s => show sTry sb j i ring seen E = _; unfold sTry; rw [show sb E = _ from hs]
  | rt r => obtain ⟨R, e, h1, h2⟩ := hs; exact ⟨R, e, by unfold sTry; rw [h1], h2⟩
  | stuck => trivial
  | rs x es =>
    obtain ⟨e, h1, h2⟩ := hs
    have h2 : e = E0 es := h2
    subst h2
    unfold tTry
    cases hr : ring x.cls with
    | none => simp only [hr]; trivial
    | some b =>
      cases b with
      | false => simp only [hr]; trivial
      | true =>
        cases hf : x.fs with
        | some fs => simp only [hr, hf]; trivial
        | none =>
          cases hsn : seenB x.cls with
          | none => simp only [hr, hf, hsn]; trivial
          | some bs =>
            simp only [hr, hf, hsn]
            show sTry sb j i ring seen E = .nx (En (h es bs))
            unfold sTry
            rw [h1]
            simp only [hr, hf, hse, hsn, Option.map_some, hi]
            rw [if_pos ⟨hj es, hij, scal_bls bs⟩, ← hx]
            rfl
end
/-! the law's own end -/
theorem law_of {f : List S → CallR} {t : List Int → Res Bool} {ns : List Int} (F : CF f (fun a : List Int × Unit => t a.1) (aCons (sF D.scr) aNil) (qN D.bl)) (h : t ns = .ok true) : ∃ o, f [.fz (.scr ns)] = .ok (.fz (.bl true)) o := by
  have this : ansF (qN D.bl) (t ns) (f [.fz (.scr ns)]) := F.run (ns, ()) [.fz (.scr ns)] ⟨_, _, rfl, rfl, rfl⟩
  rw [h] at this
  obtain ⟨r, o, h1, h2⟩ := this
  refine ⟨o, ?_⟩
  rw [h1]
  have h2 : r.op = .fz (.bl true) := h2
  cases r with
  | fz d => have h2 : P.fz d = .fz (.bl true) := h2; cases h2; rfl
  | bor l o => cases h2
  | tmp o => have h2 : P.fz o.cold = .fz (.bl true) := h2; cases o <;> cases h2
end RC

set_option Elab.async false
set_option linter.all false
set_option maxRecDepth 100000
set_option maxHeartbeats 1000000
/-! T7: is True, is False. -/
namespace RC
open PySem PySem.Spec PyProof.Rows L2
variable {α β γ σ σ' τ ρ ε κ : Type}
section
variable {E : Env} {ma mb mc : Env → Res P} {ta : Res Bool}
theorem j_isB {b : Bool} (ha : J ma E ta (qF D.bl)) : J (one1 (kIsB b) ma) E (ta.map fun a => decide (a = b)) qB := by
  have := j_one (k := kIsB b) (f := fun a => some (decide (a = b))) (C := qB) ha fun a p z hp hz => ⟨decide (a = b), by rw [show p = _ from hp]; rfl, by cases hz; rfl⟩
  have e : (ta.bind fun a => Res.of (some (decide (a = b)))) = ta.map fun a => decide (a = b) := by cases ta <;> rfl
  rw [e] at this; exact this
theorem j_nonB {b : Bool} (ha : J ma E ta (qF D.bl)) : J (one1 (kNonB b) ma) E (ta.map fun a => !decide (a = b)) qB := by
  have := j_one (k := kNonB b) (f := fun a => some (!decide (a = b))) (C := qB) ha fun a p z hp hz => ⟨!decide (a = b), by rw [show p = _ from hp]; rfl, by cases hz; rfl⟩
  have e : (ta.bind fun a => Res.of (some (!decide (a = b)))) = ta.map fun a => !decide (a = b) := by cases ta <;> rfl
  rw [e] at this; exact this
end
section
variable {E : Env} {ma mb mc : Env → Res P}
theorem lst_of_cd {p : P} {ds : List D} (h : p.cd = .lst ds) : p.lst? = some ds := by
  cases p with
  | fz d => have h : d = .lst ds := h; subst h; rfl
  | bor l o => cases o with
    | lst ds' => have h : D.lst ds' = .lst ds := h; cases h; rfl
    | dct _ => cases h
    | obj _ _ => cases h
theorem j_lcO {v : Nat} {tc : Env → Res Bool} {me : Env → Res P} {ta : Res (List α)} {e : α → D} {e' : β → D} {tt : α → Res Bool} {te : α → Res β} (ha : J ma E ta (qC (eL e)))
    (hc : ∀ a, J tc ((wipeE E [v]).set v (.fz (e a))) (tt a) qB) (he : ∀ a, J me ((wipeE E [v]).set v (.fz (e a))) (te a) (qF e')) (hf : free? E v = true := by rfl) : J (mLc P.lst? v ma tc me) E (tLc tt te ta) (qT (oL e')) :=
  lc_fin (fun xs h => by
    subst h
    obtain ⟨p, h1, h2⟩ := ha
    unfold mLc
    rw [h1]
    simp only [lst_of_cd (show p.cd = .lst (xs.map e) from h2)]) (fun x h => by subst h; unfold mLc; rw [show ma E = _ from ha]) hc he hf
end
end RC

set_option Elab.async false
set_option linter.all false
set_option maxRecDepth 100000
set_option maxHeartbeats 1000000
/-! S1: reckoning with typed defs. -/
namespace RC
open PySem PySem.Spec PyProof.Rows L2
section
variable {α β γ σ σ' τ ρ ε κ : Type}
/-! loops -/
theorem tFor_seq {b : σ → α → TF σ σ ρ ε} {xs : List α} {s0 : σ} (f : Nat → σ) (h0 : s0 = f 0) (hs : ∀ i a, xs[i]? = some a → b (f i) a = .nx (f (i + 1)) ∨ b (f i) a = .ct (f (i + 1))) : (tFor b xs s0 : TF β σ ρ ε) = .nx (f xs.length) := by
  subst h0
  suffices H : ∀ (ys : List α) (i : Nat), (∀ j a, ys[j]? = some a → b (f (i + j)) a = .nx (f (i + j + 1)) ∨ b (f (i + j)) a = .ct (f (i + j + 1))) → (tFor b ys (f i) : TF β σ ρ ε) = .nx (f (i + ys.length)) by
    have := H xs 0 (fun j a h => by rw [Nat.zero_add]; exact hs j a h)
    simpa using this
  intro ys
  induction ys with
  | nil => intro i _; rfl
  | cons a as ih =>
    intro i h
    have h1 : b (f i) a = .nx (f (i + 1)) ∨ b (f i) a = .ct (f (i + 1)) := h 0 a rfl
    have h2 := ih (i + 1) fun j c hc => by
      have := h (j + 1) c (by simpa using hc)
      rw [show i + 1 + j = i + (j + 1) by omega]; exact this
    rw [List.length_cons, show i + (as.length + 1) = i + 1 + as.length by omega]
    unfold tFor
    rcases h1 with h1 | h1 <;> rw [h1] <;> exact h2
theorem tFor_rng {b : σ → Int → TF σ σ ρ ε} {lo : Int} {n : Nat} {s0 : σ} (f : Nat → σ) (h0 : s0 = f 0) (hs : ∀ i, i < n → b (f i) (lo + (i : Int)) = .nx (f (i + 1)) ∨ b (f i) (lo + (i : Int)) = .ct (f (i + 1))) : (tFor b (rngI lo n) s0 : TF β σ ρ ε) = .nx (f n) := by
  have := tFor_seq (β := β) (b := b) (xs := rngI lo n) f h0 fun i a h => by
    have hi : i < n := by have := (List.getElem?_eq_some_iff.mp h).1; simpa using this
    rw [rngI_get hi] at h
    cases h
    exact hs i hi
  rw [rngI_len] at this
  exact this
theorem tFor_inv {b : σ → α → TF σ σ ρ ε} {xs : List α} {s0 : σ} (I : Nat → σ → Prop) (h0 : I 0 s0) (hs : ∀ i a s, xs[i]? = some a → I i s → ∃ s', (b s a = .nx s' ∨ b s a = .ct s') ∧ I (i + 1) s') : ∃ s', (tFor b xs s0 : TF β σ ρ ε) = .nx s' ∧ I xs.length s' := by
  suffices H : ∀ (ys : List α) (i : Nat) (s : σ), I i s → (∀ j a s, ys[j]? = some a → I (i + j) s → ∃ s', (b s a = .nx s' ∨ b s a = .ct s') ∧ I (i + j + 1) s') → ∃ s', (tFor b ys s : TF β σ ρ ε) = .nx s' ∧ I (i + ys.length) s' by
    have := H xs 0 s0 h0 fun j a s h => by rw [Nat.zero_add]; exact hs j a s h
    simpa using this
  intro ys
  induction ys with
  | nil => intro i s h _; exact ⟨s, rfl, h⟩
  | cons a as ih =>
    intro i s h hh
    obtain ⟨s', h1, h2⟩ := hh 0 a s rfl h
    obtain ⟨s2, h3, h4⟩ := ih (i + 1) s' h2 fun j c s hc hi => by
      have := hh (j + 1) c s (by simpa using hc) (by rw [show i + (j + 1) = i + 1 + j by omega]; exact hi)
      rw [show i + 1 + j = i + (j + 1) by omega]; exact this
    refine ⟨s2, ?_, by rw [List.length_cons, show i + (as.length + 1) = i + 1 + as.length by omega]; exact h4⟩
    unfold tFor
    rcases h1 with h1 | h1 <;> rw [h1] <;> exact h3
theorem tFor_rinv {b : σ → Int → TF σ σ ρ ε} {lo : Int} {n : Nat} {s0 : σ} (I : Nat → σ → Prop) (h0 : I 0 s0) (hs : ∀ i s, i < n → I i s → ∃ s', (b s (lo + (i : Int)) = .nx s' ∨ b s (lo + (i : Int)) = .ct s') ∧ I (i + 1) s') : ∃ s', (tFor b (rngI lo n) s0 : TF β σ ρ ε) = .nx s' ∧ I n s' := by
  obtain ⟨s', h1, h2⟩ := tFor_inv (β := β) (b := b) (xs := rngI lo n) I h0 fun i a s h hi => by
    have hl : i < n := by have := (List.getElem?_eq_some_iff.mp h).1; simpa using this
    rw [rngI_get hl] at h
    cases h
    exact hs i s hl hi
  rw [rngI_len] at h2
  exact ⟨s', h1, h2⟩
/-- a loop without a state that looks for what p tells -/
theorem tFor_look {b : Unit → α → TF Unit Unit ρ ε} (p : α → Bool) (r : ρ) : ∀ {xs : List α}, (∀ a ∈ xs, b () a = if p a = true then .rt r else .nx ()) → (tFor b xs () : TF β Unit ρ ε) = if xs.any p = true then .rt r else .nx ()
  | [], _ => rfl
  | a :: as, h => by
    unfold tFor
    rw [h a List.mem_cons_self, List.any_cons]
    cases hp : p a with
    | true => simp
    | false =>
      simp only [Bool.false_or, Bool.false_eq_true, if_false]
      exact tFor_look p r fun x hx => h x (List.mem_cons_of_mem _ hx)
/-- and raises -/
theorem tFor_lookx {b : Unit → α → TF Unit Unit ρ ε} (p : α → Bool) (x : Exc) (e : ε) : ∀ {xs : List α}, (∀ a ∈ xs, b () a = if p a = true then .rs x e else .nx ()) → (tFor b xs () : TF β Unit ρ ε) = if xs.any p = true then .rs x e else .nx ()
  | [], _ => rfl
  | a :: as, h => by
    unfold tFor
    rw [h a List.mem_cons_self, List.any_cons]
    cases hp : p a with
    | true => simp
    | false =>
      simp only [Bool.false_or, Bool.false_eq_true, if_false]
      exact tFor_lookx p x e fun x hx => h x (List.mem_cons_of_mem _ hx)
@[simp] theorem tFor_cons (b : σ → α → TF σ σ ρ ε) (a : α) (as : List α) (s : σ) : (tFor b (a :: as) s : TF β σ ρ ε) = (match b s a with
    | .nx s' => tFor b as s'
    | .ct s' => tFor b as s'
    | .bk s' => .nx s'
    | .rt r => .rt r
    | .rs x e => .rs x e
    | .stuck => .stuck) := id rfl
theorem tWh_f {c : σ → Res Bool} {b : σ → TF σ σ ρ ε} {n : Nat} {s : σ} (h : c s = .ok false) : (tWh c b (n + 1) s : TF β σ ρ ε) = .nx s := by unfold tWh; rw [h]
theorem tWh_t {c : σ → Res Bool} {b : σ → TF σ σ ρ ε} {n : Nat} {s s' : σ} (h : c s = .ok true) (hb : b s = .nx s') : (tWh c b (n + 1) s : TF β σ ρ ε) = tWh c b n s' := by rw [tWh, h, hb]
/-! ints of lists -/
def bI (bs : List Int) (i : Nat) : Int := bs.getD i 0
theorem get_bI {bs : List Int} {i : Nat} (h : i < bs.length) : bs[i]? = some (bI bs i) := by
  unfold bI; rw [List.getD_eq_getElem?_getD, List.getElem?_eq_getElem h]; rfl
theorem tIx_nat {xs : List α} {i : Int} {j : Nat} {a : α} (hi : i = (j : Int)) (h : xs[j]? = some a) : tIx (.ok xs) (.ok i) = .ok a := by
  rw [tIx_ok, atI_in hi h]; rfl
theorem tIx_bI {xs : List Int} {i : Int} {j : Nat} (hi : i = (j : Int)) (h : j < xs.length) : tIx (.ok xs) (.ok i) = .ok (bI xs j) := tIx_nat hi (get_bI h)
theorem bI_set {xs : List Int} {i j : Nat} {v : Int} (h : i < xs.length) : bI (xs.set i v) j = if i = j then v else bI xs j := by
  unfold bI
  rw [List.getD_eq_getElem?_getD, List.getD_eq_getElem?_getD, List.getElem?_set]
  by_cases e : i = j
  · subst e; simp [h]
  · simp [e]
theorem bI_mem {xs : List Int} {i : Nat} (h : i < xs.length) : bI xs i ∈ xs := by
  have := get_bI h
  exact List.mem_of_getElem? this
theorem bI_eq {xs : List Int} {i : Nat} (h : i < xs.length) : bI xs i = xs[i] := by
  have := get_bI h
  rw [List.getElem?_eq_getElem h] at this
  exact (Option.some.inj this).symm
theorem ext_bI {xs ys : List Int} (hl : xs.length = ys.length) (h : ∀ i, i < xs.length → bI xs i = bI ys i) : xs = ys := by
  refine List.ext_getElem hl fun i h1 h2 => ?_
  have := h i h1
  rwa [bI_eq h1, bI_eq h2] at this
/-- a row of draws -/
def Row (ds : List Int) : Prop := ∀ d ∈ ds, 0 ≤ d ∧ d ≤ 996
theorem Row.at {ds : List Int} (h : Row ds) (i : Nat) : 0 ≤ bI ds i ∧ bI ds i ≤ 996 := by
  unfold bI
  rw [List.getD_eq_getElem?_getD]
  cases hi : ds[i]? with
  | none => simp
  | some b => exact h b (List.mem_of_getElem? hi)
theorem Row.app {ds : List Int} (h : Row ds) {d : Int} (h0 : 0 ≤ d) (h1 : d ≤ 996) : Row (ds ++ [d]) := fun x hx => by
  rcases List.mem_append.mp hx with hx | hx
  · exact h x hx
  · rw [List.mem_singleton.mp hx]; exact ⟨h0, h1⟩
theorem Row.slice {ds : List Int} (h : Row ds) (i j : Nat) : Row ((ds.drop i).take j) := fun x hx => h x (List.mem_of_mem_drop (List.mem_of_mem_take hx))
theorem cutL_nat (xs : List α) (i j : Nat) : cutL xs (some (i : Int)) (some (j : Int)) = (xs.drop (min i xs.length)).take (min j xs.length - min i xs.length) := by
  unfold cutL; rw [HT.sIx_nat, HT.sIx_nat]
theorem cutL_in {xs : List α} {lo hi : Int} {i j : Nat} (h1 : lo = (i : Int)) (h2 : hi = (j : Int)) (hij : i ≤ j) (hj : j ≤ xs.length) : cutL xs (some lo) (some hi) = (xs.drop i).take (j - i) := by
  subst h1 h2
  rw [cutL_nat, Nat.min_eq_left (show i ≤ xs.length by omega), Nat.min_eq_left hj]
theorem cut_len {xs : List α} {i j : Nat} (hij : i ≤ j) (hj : j ≤ xs.length) : ((xs.drop i).take (j - i)).length = j - i := by simp; omega
theorem bI_cut {xs : List Int} {i n k : Nat} (h : k < n) : bI ((xs.drop i).take n) k = bI xs (i + k) := by
  unfold bI
  rw [List.getD_eq_getElem?_getD, List.getD_eq_getElem?_getD, List.getElem?_take_of_lt h, List.getElem?_drop]
theorem emod_nat {a b : Int} (h : 0 < b) : ∃ n : Nat, a % b = (n : Int) ∧ (n : Int) < b := ⟨(a % b).toNat, by rw [Int.toNat_of_nonneg (Int.emod_nonneg _ (by omega))], by have := Int.emod_lt_of_pos a h; have := Int.emod_nonneg a (show b ≠ 0 by omega); omega⟩
theorem ofEq {α : Type} {o : Option α} {a : α} (h : o = some a) : Res.of o = .ok a := by rw [h]; rfl
theorem dEq_int (a b : Int) : dEq (.int a) (.int b) = some (a == b) := rfl
theorem dNe_int (a b : Int) : dNe (.int a) (.int b) = some (!(a == b)) := rfl
theorem dEq_bl (a b : Bool) : dEq (.bl a) (.bl b) = some (a == b) := rfl
/-! == of data of one form -/
theorem dEq_pd {x y : D} {p q : PyData} (hp : x.pd = some p) (hq : y.pd = some q) (lp : p.canLay0 = true) (lq : q.canLay0 = true) (dp : p.depth ≤ 64) (dq : q.depth ≤ 64) : dEq x y = some (PyData.eqv p q) := by
  unfold dEq kEq
  have h1 : (P.fz x).pd = some p := hp
  have h2 : (P.fz y).pd = some q := hq
  rw [h1, h2]
  exact if_pos ⟨by unfold SeqAt.shaped; simp [lp, dp], by unfold SeqAt.shaped; simp [lq, dq]⟩
structure Eqv (e : α → D) (g : α → PyData) (n : Nat) (ok : α → Prop) : Prop where
  pd : ∀ a, (e a).pd = some (g a)
  lay : ∀ a, ok a → (g a).canLay0 = true
  dep : ∀ a, (g a).depth ≤ n
  eqv : ∀ a b, PyData.eqv (g a) (g b) = true ↔ a = b
structure EqvR (er : α → List D) (gr : α → List PyData) (n : Nat) (ok : α → Prop) : Prop where
  pd : ∀ a, pds (er a) = some (gr a)
  lay : ∀ a, ok a → PyData.canLayAll0 (gr a) = true
  dep : ∀ a, PyData.depthAll (gr a) ≤ n
  eqv : ∀ a b, PyData.eqvAll (gr a) (gr b) = true ↔ a = b
theorem Eqv.eq {e : α → D} {g : α → PyData} {n : Nat} {ok : α → Prop} (E : Eqv e g n ok) [DecidableEq α] {a b : α} (ha : ok a) (hb : ok b) (hn : n ≤ 64 := by decide) : dEq (e a) (e b) = some (decide (a = b)) := by
  rw [dEq_pd (E.pd a) (E.pd b) (E.lay a ha) (E.lay b hb) (Nat.le_trans (E.dep a) hn) (Nat.le_trans (E.dep b) hn)]
  by_cases h : a = b
  · rw [(E.eqv a b).mpr h]; simp [h]
  · have : PyData.eqv (g a) (g b) = false := by
      cases hc : PyData.eqv (g a) (g b) with
      | true => exact absurd ((E.eqv a b).mp hc) h
      | false => rfl
    rw [this]; simp [h]
theorem Eqv.ne {e : α → D} {g : α → PyData} {n : Nat} {ok : α → Prop} (E : Eqv e g n ok) [DecidableEq α] {a b : α} (ha : ok a) (hb : ok b) (hn : n ≤ 64 := by decide) : dNe (e a) (e b) = some (!decide (a = b)) := by
  show (dEq (e a) (e b)).map Bool.not = _
  rw [E.eq ha hb hn]; rfl
theorem Eqv.int : Eqv D.int PyData.int 1 (fun _ => True) := ⟨fun _ => rfl, fun _ _ => rfl, fun _ => by simp [PyData.depth], fun a b => by simp [PyData.eqv]⟩
theorem Eqv.bl : Eqv D.bl PyData.bool 1 (fun _ => True) := ⟨fun _ => rfl, fun _ _ => rfl, fun _ => by simp [PyData.depth], fun a b => by simp [PyData.eqv]⟩
theorem Eqv.str : Eqv D.str PyData.str 1 (fun s => PyData.strOk s = true) := ⟨fun _ => rfl, fun _ h => h, fun _ => by simp [PyData.depth], fun a b => by simp [PyData.eqv]⟩
theorem EqvR.U : EqvR eU (fun _ => []) 0 (fun _ => True) := ⟨fun _ => rfl, fun _ _ => rfl, fun _ => by simp [PyData.depthAll], fun a b => by simp [PyData.eqvAll]⟩
theorem EqvR.P {e : α → D} {g : α → PyData} {er : β → List D} {gr : β → List PyData} {n m : Nat} {ok : α → Prop} {ok' : β → Prop} (E : Eqv e g n ok) (F : EqvR er gr m ok') : EqvR (eP e er) (fun x => g x.1 :: gr x.2) (max n m) (fun x => ok x.1 ∧ ok' x.2) :=
  ⟨fun a => by unfold eP; rw [pds, E.pd, F.pd], fun a h => by unfold PyData.canLayAll0; rw [E.lay _ h.1, F.lay _ h.2]; rfl, fun a => by
    have h1 := E.dep a.1
    have h2 := F.dep a.2
    simp only [PyData.depthAll]; omega, fun a b => by
    unfold PyData.eqvAll
    rw [Bool.and_eq_true, E.eqv, F.eqv]
    constructor
    · intro h; exact Prod.ext h.1 h.2
    · intro h; subst h; exact ⟨rfl, rfl⟩⟩
theorem Eqv.T {er : α → List D} {gr : α → List PyData} {n : Nat} {ok : α → Prop} (F : EqvR er gr n ok) : Eqv (eT er) (fun x => .tuple (gr x)) (n + 1) ok :=
  ⟨fun a => by unfold eT; rw [D.pd, F.pd], fun a h => by unfold PyData.canLay0; exact F.lay a h, fun a => by have := F.dep a; simp only [PyData.depth]; omega, fun a b => by unfold PyData.eqv; exact F.eqv a b⟩
theorem Eqv.all {e : α → D} {g : α → PyData} {n : Nat} {ok : α → Prop} (E : Eqv e g n ok) : EqvR (fun xs : List α => xs.map e) (fun xs => xs.map g) n (fun xs => ∀ a ∈ xs, ok a) :=
  ⟨fun xs => by
    induction xs with
    | nil => rfl
    | cons a as ih => rw [List.map_cons, pds, E.pd, ih]; rfl, fun xs h => by
    induction xs with
    | nil => rfl
    | cons a as ih => rw [List.map_cons, PyData.canLayAll0, E.lay a (h a List.mem_cons_self), ih fun x hx => h x (List.mem_cons_of_mem _ hx)]; rfl, fun xs => by
    induction xs with
    | nil => simp [PyData.depthAll]
    | cons a as ih => have := E.dep a; simp only [List.map_cons, PyData.depthAll]; omega, fun xs => by
    induction xs with
    | nil => intro ys; cases ys <;> simp [PyData.eqvAll]
    | cons a as ih =>
      intro ys
      cases ys with
      | nil => simp [PyData.eqvAll]
      | cons b bs => simp only [List.map_cons, PyData.eqvAll, Bool.and_eq_true, E.eqv, ih, List.cons.injEq]⟩
theorem Eqv.L {e : α → D} {g : α → PyData} {n : Nat} {ok : α → Prop} (E : Eqv e g n ok) : Eqv (eL e) (fun xs => .list (xs.map g)) (n + 1) (fun xs => ∀ a ∈ xs, ok a) :=
  ⟨fun a => by unfold eL; rw [D.pd, E.all.pd], fun a h => by unfold PyData.canLay0; exact E.all.lay a h, fun a => by have := E.all.dep a; simp only [PyData.depth]; omega, fun a b => by unfold PyData.eqv; exact E.all.eqv a b⟩
theorem Eqv.S {e : α → D} {g : α → PyData} {n : Nat} {ok : α → Prop} (E : Eqv e g n ok) : Eqv (eS e) (fun xs => .tuple (xs.map g)) (n + 1) (fun xs => ∀ a ∈ xs, ok a) :=
  ⟨fun a => by unfold eS; rw [D.pd, E.all.pd], fun a h => by unfold PyData.canLay0; exact E.all.lay a h, fun a => by have := E.all.dep a; simp only [PyData.depth]; omega, fun a b => by unfold PyData.eqv; exact E.all.eqv a b⟩
theorem dEq_ints (xs ys : List Int) : dEq (eL D.int xs) (eL D.int ys) = some (decide (xs = ys)) := (Eqv.L Eqv.int).eq (fun _ _ => trivial) (fun _ _ => trivial)
theorem dNe_ints (xs ys : List Int) : dNe (eL D.int xs) (eL D.int ys) = some (!decide (xs = ys)) := (Eqv.L Eqv.int).ne (fun _ _ => trivial) (fun _ _ => trivial)
theorem dEq_bls (xs ys : List Bool) : dEq (eL D.bl xs) (eL D.bl ys) = some (decide (xs = ys)) := (Eqv.L Eqv.bl).eq (fun _ _ => trivial) (fun _ _ => trivial)
theorem dNe_bls (xs ys : List Bool) : dNe (eL D.bl xs) (eL D.bl ys) = some (!decide (xs = ys)) := (Eqv.L Eqv.bl).ne (fun _ _ => trivial) (fun _ _ => trivial)
/-! in, of ints -/
theorem fvs_int : ∀ xs : List Int, fvs (xs.map D.int) = some (xs.map V.int)
  | [] => rfl
  | x :: xs => by show (match (D.int x).fv, fvs (xs.map D.int) with
      | some p, some ps => some (p :: ps)
      | _, _ => none) = _; rw [fvs_int xs]; rfl
theorem inV_int (x : Int) (xs : List Int) : inV (.int x) (xs.map V.int) = decide (x ∈ xs) := by
  unfold inV
  rw [List.any_map]
  by_cases h : x ∈ xs
  · rw [decide_eq_true h, List.any_eq_true]
    exact ⟨x, h, by simp [eqV]⟩
  · rw [decide_eq_false h, List.any_eq_false]
    intro y hy hc
    have : y = x := by simpa [eqV] using hc
    exact h (this ▸ hy)
theorem dIn_ints (x : Int) (xs : List Int) : dIn (.int x) (eL D.int xs) = some (decide (x ∈ xs)) := by
  unfold dIn kIn
  have h1 : (P.fz (.int x)).d? = some (.int x) := rfl
  have h2 : (P.fz (eL D.int xs)).seq? = some (xs.map D.int) := rfl
  rw [h1, h2]
  simp only [fvs_int]
  show some (inV (.int x) (xs.map V.int)) = _
  rw [inV_int]
theorem dNi_ints (x : Int) (xs : List Int) : dNi (.int x) (eL D.int xs) = some (!decide (x ∈ xs)) := by
  show (dIn (.int x) (eL D.int xs)).map Bool.not = _
  rw [dIn_ints]; rfl
end
end RC

set_option Elab.async false
set_option linter.all false
set_option maxRecDepth 100000
set_option maxHeartbeats 1000000
/-! S2: lines, covers, tables: plain reckoning. -/
namespace RC
open PySem PySem.Spec PyProof.Rows L2
abbrev Ln := List (Int × Int × Unit)
abbrev Cov := Int × Str × Int × Int × Ln × Unit
abbrev cH (c : Cov) : Int := c.1
abbrev cK (c : Cov) : Str := c.2.1
abbrev cB (c : Cov) : Int := c.2.2.1
abbrev cM (c : Cov) : Int := c.2.2.2.1
abbrev cL (c : Cov) : Ln := c.2.2.2.2.1
/-! ### lines -/
structure GoodL (ls : Ln) : Prop where
  pos : 1 ≤ ls.length
  few : ls.length ≤ 4
  w : ∀ p ∈ ls, 1 ≤ p.2.1 ∧ p.2.1 ≤ 20
structure Lines (ls : Ln) : Prop where
  good : GoodL ls
  house : ∀ p ∈ ls, 0 ≤ p.1 ∧ p.1 < 6
  nodup : (ls.map (·.1)).Nodup
/-- the rest of lines, behind houses seen -/
def goodFrom : List Int → Ln → Bool
  | _, [] => true
  | seen, p :: ps => (!(decide (p.1 < 0) || (decide (6 ≤ p.1) || (decide (p.1 ∈ seen) || (decide (p.2.1 < 1) || decide (20 < p.2.1)))))) && goodFrom (seen ++ [p.1]) ps
def areL (ls : Ln) : Bool := decide (1 ≤ ls.length ∧ ls.length ≤ 4) && goodFrom [] ls
theorem goodFrom_iff : ∀ (ls : Ln) (seen : List Int), goodFrom seen ls = true ↔ (∀ p ∈ ls, (0 ≤ p.1 ∧ p.1 < 6) ∧ (1 ≤ p.2.1 ∧ p.2.1 ≤ 20) ∧ p.1 ∉ seen) ∧ (ls.map (·.1)).Nodup
  | [], seen => by simp [goodFrom]
  | p :: ps, seen => by
    unfold goodFrom
    rw [Bool.and_eq_true, goodFrom_iff ps, List.map_cons, List.nodup_cons]
    simp only [Bool.not_eq_true', Bool.or_eq_false_iff, decide_eq_false_iff_not, List.mem_cons, forall_eq_or_imp, List.mem_append, List.mem_map]
    constructor
    · rintro ⟨⟨h1, h2, h3, h4, h5⟩, h6, h7⟩
      refine ⟨⟨⟨by omega, by omega⟩ |> fun z => ⟨z, ⟨by omega, by omega⟩, h3⟩, fun q hq => ?_⟩, ?_, h7⟩
      · obtain ⟨a, b, c⟩ := h6 q hq
        exact ⟨a, b, fun z => c (.inl z)⟩
      · rintro ⟨q, hq, e⟩
        exact (h6 q hq).2.2 (.inr (by simp [e]))
    · rintro ⟨⟨⟨h1, h2, h3⟩, h4⟩, h5, h6⟩
      refine ⟨⟨by omega, by omega, h3, by omega, by omega⟩, ⟨fun q hq => ?_, h6⟩⟩
      obtain ⟨a, b, c⟩ := h4 q hq
      refine ⟨a, b, fun z => ?_⟩
      rcases z with z | z
      · exact c z
      · simp at z
        exact h5 ⟨q, hq, z⟩
theorem areL_iff (ls : Ln) : areL ls = true ↔ Lines ls := by
  unfold areL
  rw [Bool.and_eq_true, goodFrom_iff, decide_eq_true_iff]
  constructor
  · rintro ⟨⟨h1, h2⟩, h3, h4⟩
    exact ⟨⟨h1, h2, fun p hp => (h3 p hp).2.1⟩, fun p hp => (h3 p hp).1, h4⟩
  · rintro ⟨⟨h1, h2, h3⟩, h4, h5⟩
    exact ⟨⟨h1, h2⟩, fun p hp => ⟨h4 p hp, h3 p hp, List.not_mem_nil⟩, h5⟩
def lW (ls : Ln) (i : Nat) : Int := (ls.getD i (0, 0, ())).2.1
def hA (ls : Ln) (i : Nat) : Int := (ls.getD i (0, 0, ())).1
theorem get_line {ls : Ln} {i : Nat} (h : i < ls.length) : ls[i]? = some (hA ls i, lW ls i, ()) := by
  unfold hA lW; rw [List.getD_eq_getElem?_getD, List.getElem?_eq_getElem h]; rfl
theorem hA_mem {ls : Ln} {i : Nat} (h : i < ls.length) : (hA ls i, lW ls i, ()) ∈ ls := List.mem_of_getElem? (get_line h)
/-! ### dealing crown by crown -/
def pick (ls : Ln) (bs : List Int) (best at_ : Nat) : Nat := if (bI bs at_ + 1) * lW ls best < (bI bs best + 1) * lW ls at_ then at_ else best
def foldp (ls : Ln) (bs : List Int) (lo n : Nat) (b : Nat) : Nat := (List.range' lo n).foldl (pick ls bs) b
def foremost (ls : Ln) (bs : List Int) : Nat := foldp ls bs 0 ls.length 0
theorem foldp_succ (ls : Ln) (bs : List Int) (lo n b : Nat) : foldp ls bs lo (n + 1) b = pick ls bs (foldp ls bs lo n b) (lo + n) := by
  unfold foldp; rw [List.range'_concat]; simp
theorem pick_lt {ls : Ln} {bs : List Int} {b a n : Nat} (hb : b < n) (ha : a < n) : pick ls bs b a < n := by unfold pick; split <;> assumption
theorem foldp_lt {ls : Ln} {bs : List Int} {lo b : Nat} {m : Nat} (hb : b < m) : ∀ n, lo + n ≤ m → foldp ls bs lo n b < m
  | 0, _ => hb
  | n + 1, h => by rw [foldp_succ]; exact pick_lt (foldp_lt hb n (by omega)) (by omega)
theorem foremost_lt {ls : Ln} {bs : List Int} (h : 1 ≤ ls.length) : foremost ls bs < ls.length := foldp_lt (by omega) _ (by omega)
/-- the first place picked is the place 0 itself -/
theorem foremost_from1 {ls : Ln} {bs : List Int} (h : 1 ≤ ls.length) : foremost ls bs = foldp ls bs 1 (ls.length - 1) 0 := by
  unfold foremost foldp
  obtain ⟨n, hn⟩ : ∃ n, ls.length = n + 1 := ⟨ls.length - 1, by omega⟩
  rw [hn, List.range'_succ, List.foldl_cons]
  have : pick ls bs 0 0 = 0 := by unfold pick; split <;> rfl
  rw [this]
  rfl
def deal (ls : Ln) (bs : List Int) : List Int := bs.set (foremost ls bs) (bI bs (foremost ls bs) + 1)
def dealt (ls : Ln) : Nat → List Int
  | 0 => List.replicate ls.length 0
  | n + 1 => deal ls (dealt ls n)
@[simp] theorem dealt_len (ls : Ln) : ∀ n, (dealt ls n).length = ls.length
  | 0 => by simp [dealt]
  | n + 1 => by simp [dealt, deal, dealt_len ls n]
theorem bI_rep (n i : Nat) : bI (List.replicate n 0) i = 0 := by
  unfold bI
  rw [List.getD_eq_getElem?_getD, List.getElem?_replicate]
  split <;> rfl
theorem dealt_bd (ls : Ln) : ∀ n i, 0 ≤ bI (dealt ls n) i ∧ bI (dealt ls n) i ≤ (n : Int)
  | 0, i => by unfold dealt; rw [bI_rep]; omega
  | n + 1, i => by
    have h1 := dealt_bd ls n i
    have h2 := dealt_bd ls n (foremost ls (dealt ls n))
    show 0 ≤ bI (deal ls (dealt ls n)) i ∧ bI (deal ls (dealt ls n)) i ≤ _
    unfold deal
    by_cases hl : foremost ls (dealt ls n) < (dealt ls n).length
    · rw [bI_set hl]; split <;> omega
    · rw [List.set_eq_of_length_le (by omega)]; omega
theorem dealt_mem {ls : Ln} {n : Nat} {b : Int} (h : b ∈ dealt ls n) : 0 ≤ b ∧ b ≤ (n : Int) := by
  obtain ⟨i, hi, rfl⟩ := List.mem_iff_getElem.mp h
  rw [← bI_eq hi]
  exact dealt_bd ls n i
def rowsOf (ls : Ln) (n : Nat) : List (List Int) := (List.range (n + 1)).map (dealt ls)
@[simp] theorem rowsOf_len (ls : Ln) (n : Nat) : (rowsOf ls n).length = n + 1 := by simp [rowsOf]
theorem rowsOf_get (ls : Ln) {n k : Nat} (h : k ≤ n) : (rowsOf ls n)[k]? = some (dealt ls k) := by
  unfold rowsOf; rw [List.getElem?_map, List.getElem?_range (by omega)]; rfl
theorem rowsOf_succ (ls : Ln) (n : Nat) : rowsOf ls (n + 1) = rowsOf ls n ++ [dealt ls (n + 1)] := by
  unfold rowsOf; rw [List.range_succ]; simp
theorem sum_inc : ∀ (bs : List Int) (i : Nat) (v : Int), i < bs.length → (bs.set i v).sum = bs.sum + (v - bI bs i)
  | b :: bs, 0, v, _ => by simp [bI]; omega
  | b :: bs, i + 1, v, h => by
    have := sum_inc bs i v (by simpa using h)
    have e : bI (b :: bs) (i + 1) = bI bs i := rfl
    rw [List.set_cons_succ, List.sum_cons, List.sum_cons, e, this]
    omega
theorem dealt_sum {ls : Ln} (h : 1 ≤ ls.length) : ∀ n : Nat, (dealt ls n).sum = (n : Int)
  | 0 => by
    unfold dealt
    induction ls.length with
    | zero => rfl
    | succ n ih => rw [List.replicate_succ, List.sum_cons, ih]; rfl
  | n + 1 => by
    have hl : foremost ls (dealt ls n) < (dealt ls n).length := by rw [dealt_len]; exact foremost_lt h
    show (deal ls (dealt ls n)).sum = _
    unfold deal
    rw [sum_inc _ _ _ hl, dealt_sum h n]
    omega
/-- a greater bill gives nobody fewer crowns -/
theorem dealt_mono1 (ls : Ln) (n i : Nat) : bI (dealt ls n) i ≤ bI (dealt ls (n + 1)) i := by
  show _ ≤ bI (deal ls (dealt ls n)) i
  unfold deal
  by_cases hl : foremost ls (dealt ls n) < (dealt ls n).length
  · rw [bI_set hl]; split
    · rename_i e; rw [e]; omega
    · omega
  · rw [List.set_eq_of_length_le (by omega)]; omega
theorem dealt_mono {ls : Ln} {m n : Nat} (h : m ≤ n) (i : Nat) : bI (dealt ls m) i ≤ bI (dealt ls n) i := by
  induction n with
  | zero => rw [Nat.le_zero.mp h]; omega
  | succ n ih =>
    by_cases e : m = n + 1
    · rw [e]; omega
    · have := ih (by omega); have := dealt_mono1 ls n i; omega
/-! ### covers -/
def tk (k : Str) (b most reach : Int) : Int := if k = "share" then iMin most (reach * b / 100) else iMin most (iMax 0 (reach - b))
def byOk (k : Str) (b : Int) : Bool := if k = "share" then decide (1 ≤ b) && decide (b ≤ 100) else (decide (k = "layer") && (decide (0 ≤ b) && decide (b ≤ 200)))
structure CovOk (n : Int) (c : Cov) : Prop where
  house : 0 ≤ cH c ∧ cH c < n
  by_ : byOk (cK c) (cB c) = true
  most : 0 ≤ cM c ∧ cM c ≤ 24
  lines : Lines (cL c)
  others : ∀ p ∈ cL c, p.1 < n ∧ p.1 ≠ cH c
def isCov (n : Int) (c : Cov) : Bool := decide (0 ≤ cH c) && (decide (cH c < n) && (byOk (cK c) (cB c) && (decide (0 ≤ cM c) && (decide (cM c ≤ 24) && (areL (cL c) && (cL c).all fun p => decide (p.1 < n) && decide (p.1 ≠ cH c))))))
theorem isCov_iff (n : Int) (c : Cov) : isCov n c = true ↔ CovOk n c := by
  unfold isCov
  simp only [Bool.and_eq_true, decide_eq_true_iff, areL_iff, List.all_eq_true]
  constructor
  · rintro ⟨h1, h2, h3, h4, h5, h6, h7⟩; exact ⟨⟨h1, h2⟩, h3, ⟨h4, h5⟩, h6, h7⟩
  · rintro ⟨⟨h1, h2⟩, h3, ⟨h4, h5⟩, h6, h7⟩; exact ⟨h1, h2, h3, h4, h5, h6, h7⟩
theorem byOk_bd {k : Str} {b : Int} (h : byOk k b = true) : 0 ≤ b ∧ b ≤ 200 := by
  unfold byOk at h
  split at h <;> simp only [Bool.and_eq_true, decide_eq_true_iff] at h <;> omega
theorem byOk_share {k : Str} {b : Int} (h : byOk k b = true) (hk : k = "share") : 1 ≤ b ∧ b ≤ 100 := by
  unfold byOk at h
  rw [if_pos hk] at h
  simpa [Bool.and_eq_true, decide_eq_true_iff] using h
theorem byOk_kind {k : Str} {b : Int} (h : byOk k b = true) : k = "share" ∨ k = "layer" := by
  unfold byOk at h
  by_cases hk : k = "share"
  · exact .inl hk
  · rw [if_neg hk] at h
    simp only [Bool.and_eq_true, decide_eq_true_iff] at h
    exact .inr h.1
theorem iMin_le (a b : Int) : iMin a b ≤ a ∧ iMin a b ≤ b ∧ (iMin a b = a ∨ iMin a b = b) := by unfold iMin; split <;> omega
theorem iMax_le (a b : Int) : a ≤ iMax a b ∧ b ≤ iMax a b ∧ (iMax a b = a ∨ iMax a b = b) := by unfold iMax; split <;> omega
/-- what is asked lies from nought to the most and to the reach -/
theorem tk_bd {k : Str} {b most r : Int} (hb : byOk k b = true) (hm : 0 ≤ most) (hr : 0 ≤ r) : 0 ≤ tk k b most r ∧ tk k b most r ≤ most ∧ tk k b most r ≤ r := by
  unfold tk
  split
  · rename_i hk
    have h := byOk_share hb hk
    have m := iMin_le most (r * b / 100)
    have h1 : 0 ≤ r * b := Int.mul_nonneg hr (by omega)
    have h2 : r * b ≤ r * 100 := Int.mul_le_mul_of_nonneg_left (by omega) hr
    omega
  · have h := byOk_bd hb
    have m := iMin_le most (iMax 0 (r - b))
    have m2 := iMax_le 0 (r - b)
    omega
/-- a crown more asks nought or one more -/
theorem tk_step {k : Str} {b most r : Int} (hb : byOk k b = true) (hr : 0 ≤ r) : tk k b most (r + 1) = tk k b most r ∨ tk k b most (r + 1) = tk k b most r + 1 := by
  unfold tk
  split
  · rename_i hk
    have h := byOk_share hb hk
    have e : (r + 1) * b = r * b + b := by rw [Int.add_mul, Int.one_mul]
    have m1 := iMin_le most (r * b / 100)
    have m2 := iMin_le most ((r + 1) * b / 100)
    rw [e] at m2 ⊢
    have d : (r * b + b) / 100 = r * b / 100 ∨ (r * b + b) / 100 = r * b / 100 + 1 := by omega
    omega
  · have h := byOk_bd hb
    have m1 := iMin_le most (iMax 0 (r - b))
    have m2 := iMin_le most (iMax 0 (r + 1 - b))
    have m3 := iMax_le 0 (r - b)
    have m4 := iMax_le 0 (r + 1 - b)
    omega
theorem tk_mono {k : Str} {b most : Int} (hb : byOk k b = true) {r s : Int} (hr : 0 ≤ r) (h : r ≤ s) : tk k b most r ≤ tk k b most s ∧ r - tk k b most r ≤ s - tk k b most s := by
  obtain ⟨n, hn⟩ : ∃ n : Nat, s = r + n := ⟨(s - r).toNat, by omega⟩
  subst hn
  induction n with
  | zero => simp
  | succ n ih =>
    have := ih (by omega)
    have st := tk_step (most := most) hb (r := r + n) (by omega)
    have e : r + ((n + 1 : Nat) : Int) = r + (n : Int) + 1 := by omega
    rw [e]
    omega
end RC

set_option Elab.async false
set_option linter.all false
set_option maxRecDepth 100000
set_option maxHeartbeats 1000000
/-! S3: burdens, what is asked, going round. -/
namespace RC
open PySem PySem.Spec PyProof.Rows L2
/-! ### lists below one another -/
structure Le (xs ys : List Int) : Prop where
  len : xs.length = ys.length
  le : ∀ i, bI xs i ≤ bI ys i
theorem Le.refl (xs : List Int) : Le xs xs := ⟨rfl, fun _ => by omega⟩
theorem Le.trans {xs ys zs : List Int} (a : Le xs ys) (b : Le ys zs) : Le xs zs := ⟨a.len.trans b.len, fun i => by have := a.le i; have := b.le i; omega⟩
theorem Le.antisymm {xs ys : List Int} (a : Le xs ys) (b : Le ys xs) : xs = ys := ext_bI a.len fun i _ => by have := a.le i; have := b.le i; omega
theorem bI_out {xs : List Int} {i : Nat} (h : xs.length ≤ i) : bI xs i = 0 := by
  unfold bI; rw [List.getD_eq_getElem?_getD, List.getElem?_eq_none h]; rfl
theorem bI_cons_succ (x : Int) (xs : List Int) (i : Nat) : bI (x :: xs) (i + 1) = bI xs i := rfl
theorem bI_cons_zero (x : Int) (xs : List Int) : bI (x :: xs) 0 = x := rfl
theorem bI_set' (xs : List Int) (i j : Nat) (v : Int) : bI (xs.set i v) j = if i = j ∧ i < xs.length then v else bI xs j := by
  by_cases h : i < xs.length
  · rw [bI_set h]; simp only [h, and_true]
  · rw [List.set_eq_of_length_le (by omega)]; simp [h]
theorem Le.sum : ∀ {xs ys : List Int}, Le xs ys → xs.sum ≤ ys.sum
  | [], [], _ => by simp
  | [], y :: ys, h => by have := h.len; simp at this
  | x :: xs, [], h => by have := h.len; simp at this
  | x :: xs, y :: ys, h => by
    have h0 := h.le 0
    have := Le.sum (xs := xs) (ys := ys) ⟨by have := h.len; simpa using this, fun i => h.le (i + 1)⟩
    rw [bI_cons_zero, bI_cons_zero] at h0
    simp only [List.sum_cons]; omega
theorem Le.sum_eq : ∀ {xs ys : List Int}, Le xs ys → ys.sum ≤ xs.sum → xs = ys
  | [], [], _, _ => rfl
  | [], y :: ys, h, _ => by have := h.len; simp at this
  | x :: xs, [], h, _ => by have := h.len; simp at this
  | x :: xs, y :: ys, h, hs => by
    have h0 := h.le 0
    rw [bI_cons_zero, bI_cons_zero] at h0
    have t : Le xs ys := ⟨by have := h.len; simpa using this, fun i => h.le (i + 1)⟩
    have := t.sum
    simp only [List.sum_cons] at hs
    have e : x = y := by omega
    rw [e, Le.sum_eq t (by omega)]
/-! ### crowns of a bill laid on the houses -/
def addP (ls : Ln) (bs : List Int) (f : List Int) : Nat → List Int
  | 0 => f
  | k + 1 => (addP ls bs f k).set (hA ls k).toNat (bI (addP ls bs f k) (hA ls k).toNat + bI bs k)
@[simp] theorem addP_len (ls : Ln) (bs f : List Int) : ∀ k, (addP ls bs f k).length = f.length
  | 0 => rfl
  | k + 1 => by unfold addP; rw [List.length_set, addP_len ls bs f k]
def addL (ls : Ln) (b : Int) (f : List Int) : List Int := addP ls (dealt ls b.toNat) f ls.length
@[simp] theorem addL_len (ls : Ln) (b : Int) (f : List Int) : (addL ls b f).length = f.length := addP_len _ _ _ _
theorem addP_mono {ls : Ln} {bs bs' f f' : List Int} (hb : ∀ i, bI bs i ≤ bI bs' i) (h : Le f f') : ∀ k, Le (addP ls bs f k) (addP ls bs' f' k)
  | 0 => h
  | k + 1 => by
    have ih := addP_mono hb h k (ls := ls)
    refine ⟨by simp [addP, h.len], fun i => ?_⟩
    show bI ((addP ls bs f k).set _ _) i ≤ bI ((addP ls bs' f' k).set _ _) i
    rw [bI_set', bI_set', ih.len]
    have h1 := ih.le i
    have h2 := ih.le (hA ls k).toNat
    have h3 := hb k
    split <;> omega
theorem addL_mono {ls : Ln} {b b' : Int} {f f' : List Int} (hb : b ≤ b') (h : Le f f') : Le (addL ls b f) (addL ls b' f') :=
  addP_mono (fun i => dealt_mono (by omega) i) h _
theorem addP_sum {ls : Ln} {bs f : List Int} : ∀ k, (∀ j, j < k → (hA ls j).toNat < f.length) → (addP ls bs f k).sum = f.sum + ((List.range k).map (bI bs)).sum
  | 0, _ => by simp [addP]
  | k + 1, h => by
    unfold addP
    rw [sum_inc _ _ _ (by rw [addP_len]; exact h k (by omega)), addP_sum k fun j hj => h j (by omega), List.range_succ, List.map_append, List.sum_append]
    simp; omega
theorem sum_bI : ∀ xs : List Int, ((List.range xs.length).map (bI xs)).sum = xs.sum
  | [] => rfl
  | x :: xs => by
    rw [List.length_cons, List.range_succ_eq_map, List.map_cons, List.map_map, List.sum_cons, List.sum_cons, ← sum_bI xs]
    rfl
theorem addL_sum {ls : Ln} {b : Int} {f : List Int} (h1 : 1 ≤ ls.length) (hb : 0 ≤ b) (h : ∀ p ∈ ls, 0 ≤ p.1 ∧ p.1 < f.length) : (addL ls b f).sum = f.sum + b := by
  unfold addL
  rw [addP_sum _ fun j hj => by have := h _ (hA_mem hj); omega]
  have := sum_bI (dealt ls b.toNat)
  rw [dealt_len] at this
  rw [this, dealt_sum h1]
  omega
theorem addP_ge {ls : Ln} {bs f : List Int} (hb : ∀ i, 0 ≤ bI bs i) : ∀ k, Le f (addP ls bs f k)
  | 0 => Le.refl _
  | k + 1 => by
    have ih := addP_ge hb k (ls := ls) (f := f)
    refine ⟨by simp, fun i => ?_⟩
    show _ ≤ bI ((addP ls bs f k).set _ _) i
    rw [bI_set']
    have h1 := ih.le i
    have h3 := hb k
    split
    · rename_i e; rw [e.1]; omega
    · exact h1
theorem addL_ge (ls : Ln) (b : Int) (f : List Int) : Le f (addL ls b f) := addP_ge (fun i => (dealt_bd ls _ i).1) _
/-! ### burdens -/
def loadF (f : List Int) (p : Cov × Int) : List Int := addL (cL p.1) p.2 f
def loads (cs : List Cov) (xs : List Int) (f : List Int) : List Int := (cs.zip xs).foldl loadF f
@[simp] theorem loads_nil (xs f : List Int) : loads [] xs f = f := rfl
@[simp] theorem loads_cons (c : Cov) (cs : List Cov) (x : Int) (xs f : List Int) : loads (c :: cs) (x :: xs) f = loads cs xs (addL (cL c) x f) := rfl
theorem foldF_len (ps : List (Cov × Int)) : ∀ f : List Int, (ps.foldl loadF f).length = f.length := by
  induction ps with
  | nil => intro f; rfl
  | cons p ps ih => intro f; rw [List.foldl_cons, ih]; exact addL_len _ _ _
@[simp] theorem loads_len (cs : List Cov) (xs f : List Int) : (loads cs xs f).length = f.length := foldF_len _ _
theorem loads_mono : ∀ {cs : List Cov} {xs ys f f' : List Int}, Le xs ys → Le f f' → Le (loads cs xs f) (loads cs ys f')
  | [], _, _, _, _, _, h => h
  | c :: cs, [], [], _, _, _, h => h
  | c :: cs, [], y :: ys, _, _, h, _ => by have := h.len; simp at this
  | c :: cs, x :: xs, [], _, _, h, _ => by have := h.len; simp at this
  | c :: cs, x :: xs, y :: ys, f, f', h, hf => by
    rw [loads_cons, loads_cons]
    have h0 := h.le 0
    exact loads_mono ⟨by have := h.len; simpa using this, fun i => h.le (i + 1)⟩ (addL_mono h0 hf)
theorem loads_ge : ∀ (cs : List Cov) (xs f : List Int), Le f (loads cs xs f)
  | [], _, f => Le.refl _
  | c :: cs, [], f => Le.refl _
  | c :: cs, x :: xs, f => (addL_ge _ _ _).trans (loads_ge cs xs _)
/-! ### what is asked, what is left -/
def ask1 (c : Cov) (l : List Int) : Int := tk (cK c) (cB c) (cM c) (bI l (cH c).toNat)
def left1 (c : Cov) (l : List Int) : List Int := l.set (cH c).toNat (bI l (cH c).toNat - ask1 c l)
def pass : List Cov → List Int → List Int × List Int
  | [], l => ([], l)
  | c :: cs, l => (ask1 c l :: (pass cs (left1 c l)).1, (pass cs (left1 c l)).2)
def passF (s : List Int × List Int) (c : Cov) : List Int × List Int := (s.1 ++ [ask1 c s.2], left1 c s.2)
theorem passF_pass : ∀ (cs : List Cov) (as l : List Int), cs.foldl passF (as, l) = (as ++ (pass cs l).1, (pass cs l).2)
  | [], as, l => by simp [pass]
  | c :: cs, as, l => by
    rw [List.foldl_cons]
    show cs.foldl passF (as ++ [ask1 c l], left1 c l) = _
    rw [passF_pass cs]
    simp [pass]
@[simp] theorem left1_len (c : Cov) (l : List Int) : (left1 c l).length = l.length := List.length_set
@[simp] theorem pass_len1 : ∀ (cs : List Cov) (l : List Int), (pass cs l).1.length = cs.length
  | [], l => rfl
  | c :: cs, l => by show (pass cs (left1 c l)).1.length + 1 = _; rw [pass_len1 cs]; rfl
@[simp] theorem pass_len2 : ∀ (cs : List Cov) (l : List Int), (pass cs l).2.length = l.length
  | [], l => rfl
  | c :: cs, l => by show (pass cs (left1 c l)).2.length = _; rw [pass_len2 cs, left1_len]
def Pos (l : List Int) : Prop := ∀ i, 0 ≤ bI l i
/-- covers whose kinds and mosts are such -/
def Kinds (cs : List Cov) : Prop := ∀ c ∈ cs, byOk (cK c) (cB c) = true ∧ 0 ≤ cM c ∧ cM c ≤ 24
theorem left1_bI (c : Cov) (l : List Int) (i : Nat) : bI (left1 c l) i = if (cH c).toNat = i ∧ (cH c).toNat < l.length then bI l i - ask1 c l else bI l i := by
  unfold left1
  rw [bI_set']
  split
  · rename_i e; rw [e.1]
  · rfl
theorem ask1_bd {c : Cov} {l : List Int} (h : byOk (cK c) (cB c) = true ∧ 0 ≤ cM c ∧ cM c ≤ 24) (hl : Pos l) : 0 ≤ ask1 c l ∧ ask1 c l ≤ cM c ∧ ask1 c l ≤ bI l (cH c).toNat := tk_bd h.1 h.2.1 (hl _)
theorem left1_pos {c : Cov} {l : List Int} (h : byOk (cK c) (cB c) = true ∧ 0 ≤ cM c ∧ cM c ≤ 24) (hl : Pos l) : Pos (left1 c l) := fun i => by
  rw [left1_bI]
  have := ask1_bd h hl
  have := hl i
  split
  · rename_i e; rw [← e.1]; omega
  · assumption
theorem pass_pos : ∀ {cs : List Cov} {l : List Int}, Kinds cs → Pos l → Pos (pass cs l).2
  | [], l, _, h => h
  | c :: cs, l, hk, h => pass_pos (cs := cs) (fun c' hc => hk c' (List.mem_cons_of_mem _ hc)) (left1_pos (hk c List.mem_cons_self) h)
/-- the cover at a place -/
def cAt (cs : List Cov) (i : Nat) : Cov := cs.getD i (0, "", 0, 0, [], ())
theorem get_cAt {cs : List Cov} {i : Nat} (h : i < cs.length) : cs[i]? = some (cAt cs i) := by
  unfold cAt; rw [List.getD_eq_getElem?_getD, List.getElem?_eq_getElem h]; rfl
theorem cAt_mem {cs : List Cov} {i : Nat} (h : i < cs.length) : cAt cs i ∈ cs := List.mem_of_getElem? (get_cAt h)
theorem pass_bd : ∀ {cs : List Cov} {l : List Int}, Kinds cs → Pos l → ∀ i, i < cs.length → 0 ≤ bI (pass cs l).1 i ∧ bI (pass cs l).1 i ≤ cM (cAt cs i)
  | c :: cs, l, hk, h, 0, _ => by have := ask1_bd (hk c List.mem_cons_self) h; exact ⟨this.1, this.2.1⟩
  | c :: cs, l, hk, h, i + 1, hi => pass_bd (cs := cs) (fun c' hc => hk c' (List.mem_cons_of_mem _ hc)) (left1_pos (hk c List.mem_cons_self) h) i (by simpa using hi)
theorem left1_mono {c : Cov} {l m : List Int} (h : byOk (cK c) (cB c) = true ∧ 0 ≤ cM c ∧ cM c ≤ 24) (hl : Pos l) (hm : Le l m) : ask1 c l ≤ ask1 c m ∧ Le (left1 c l) (left1 c m) := by
  have t := tk_mono (most := cM c) h.1 (hl (cH c).toNat) (hm.le (cH c).toNat)
  refine ⟨t.1, by simp [hm.len], fun i => ?_⟩
  rw [left1_bI, left1_bI, hm.len]
  have := hm.le i
  split
  · rename_i e; have e1 := e.1; subst e1; exact t.2
  · assumption
theorem pass_mono : ∀ {cs : List Cov} {l m : List Int}, Kinds cs → Pos l → Le l m → Le (pass cs l).1 (pass cs m).1 ∧ Le (pass cs l).2 (pass cs m).2
  | [], l, m, _, _, h => ⟨Le.refl _, h⟩
  | c :: cs, l, m, hk, hl, h => by
    have k := hk c List.mem_cons_self
    obtain ⟨h1, h2⟩ := left1_mono k hl h
    obtain ⟨h3, h4⟩ := pass_mono (cs := cs) (fun c' hc => hk c' (List.mem_cons_of_mem _ hc)) (left1_pos k hl) h2
    refine ⟨⟨by simp, fun i => ?_⟩, h4⟩
    cases i with
    | zero => exact h1
    | succ i => exact h3.le i
theorem pass_sum : ∀ {cs : List Cov} {l : List Int}, (∀ c ∈ cs, (cH c).toNat < l.length) → (pass cs l).1.sum + (pass cs l).2.sum = l.sum
  | [], l, _ => by simp [pass]
  | c :: cs, l, h => by
    have ih := pass_sum (cs := cs) (l := left1 c l) fun c' hc => by rw [left1_len]; exact h c' (List.mem_cons_of_mem _ hc)
    have e : (left1 c l).sum = l.sum - ask1 c l := by
      unfold left1; rw [sum_inc _ _ _ (h c List.mem_cons_self)]; omega
    show ask1 c l + (pass cs (left1 c l)).1.sum + (pass cs (left1 c l)).2.sum = _
    omega
/-! ### a table -/
structure Tab (n : Nat) (cs : List Cov) (bef : List Int) : Prop where
  size : 1 ≤ n ∧ n ≤ 6
  few : cs.length ≤ 10
  rows : ∀ c ∈ cs, CovOk n c
  len : bef.length = n
  bd : ∀ x ∈ bef, 0 ≤ x ∧ x ≤ 9999
structure Acc (cs : List Cov) (xs : List Int) : Prop where
  len : xs.length = cs.length
  bd : ∀ i, i < cs.length → 0 ≤ bI xs i ∧ bI xs i ≤ cM (cAt cs i)
theorem Acc.pos {cs : List Cov} {xs : List Int} (a : Acc cs xs) : Pos xs := fun i => by
  by_cases h : i < cs.length
  · exact (a.bd i h).1
  · rw [bI_out (by rw [a.len]; omega)]; omega
section
variable {n : Nat} {cs : List Cov} {bef : List Int}
theorem Tab.kinds (t : Tab n cs bef) : Kinds cs := fun c h => ⟨(t.rows c h).by_, (t.rows c h).most⟩
theorem Tab.pos (t : Tab n cs bef) : Pos bef := fun i => by
  by_cases h : i < bef.length
  · exact (t.bd _ (bI_mem h)).1
  · rw [bI_out (by omega)]; omega
theorem Tab.most_le (t : Tab n cs bef) {i : Nat} (h : i < cs.length) : 0 ≤ cM (cAt cs i) ∧ cM (cAt cs i) ≤ 24 := (t.rows _ (cAt_mem h)).most
/-- what the covers ask by an account; what is left then -/
def asks (cs : List Cov) (bef xs : List Int) : List Int := (pass cs (loads cs xs bef)).1
def lefts (cs : List Cov) (bef xs : List Int) : List Int := (pass cs (loads cs xs bef)).2
theorem pos_of_le {xs ys : List Int} (h : Le xs ys) (hx : Pos xs) : Pos ys := fun i => by have := hx i; have := h.le i; omega
theorem Tab.loads_pos (t : Tab n cs bef) (xs : List Int) : Pos (loads cs xs bef) := pos_of_le (loads_ge cs xs bef) t.pos
theorem Tab.asks_acc (t : Tab n cs bef) (xs : List Int) : Acc cs (asks cs bef xs) := ⟨by unfold asks; simp, fun i h => pass_bd t.kinds (t.loads_pos xs) i h⟩
theorem Tab.asks_mono (t : Tab n cs bef) {xs ys : List Int} (h : Le xs ys) : Le (asks cs bef xs) (asks cs bef ys) := (pass_mono t.kinds (t.loads_pos xs) (loads_mono h (Le.refl _))).1
theorem Tab.lefts_mono (t : Tab n cs bef) {xs ys : List Int} (h : Le xs ys) : Le (lefts cs bef xs) (lefts cs bef ys) := (pass_mono t.kinds (t.loads_pos xs) (loads_mono h (Le.refl _))).2
theorem Tab.lefts_pos (t : Tab n cs bef) (xs : List Int) : Pos (lefts cs bef xs) := pass_pos t.kinds (t.loads_pos xs)
theorem loads_sum : ∀ {cs : List Cov} {xs f : List Int}, (∀ c ∈ cs, Lines (cL c) ∧ ∀ p ∈ cL c, p.1 < f.length) → xs.length = cs.length → Pos xs → (loads cs xs f).sum = f.sum + xs.sum
  | [], [], f, _, _, _ => by simp
  | [], x :: xs, f, _, h, _ => by simp at h
  | c :: cs, [], f, _, h, _ => by simp at h
  | c :: cs, x :: xs, f, h, hl, hp => by
    have hc := h c List.mem_cons_self
    rw [loads_cons, loads_sum (fun c' hc' => by rw [addL_len]; exact h c' (List.mem_cons_of_mem _ hc')) (by simpa using hl) (fun i => hp (i + 1)),
      addL_sum hc.1.good.pos (show 0 ≤ x from hp 0) fun p hp' => ⟨(hc.1.house p hp').1, hc.2 p hp'⟩, List.sum_cons]
    omega
theorem Tab.loads_sum (t : Tab n cs bef) {xs : List Int} (a : Acc cs xs) : (loads cs xs bef).sum = bef.sum + xs.sum :=
  RC.loads_sum (fun c h => ⟨(t.rows c h).lines, fun p hp => by have := (t.rows c h).others p hp; rw [t.len]; omega⟩) a.len a.pos
theorem Tab.sum (t : Tab n cs bef) {xs : List Int} (a : Acc cs xs) : (asks cs bef xs).sum + (lefts cs bef xs).sum = bef.sum + xs.sum := by
  rw [← t.loads_sum a]
  exact pass_sum fun c h => by have := (t.rows c h).house; rw [loads_len, t.len]; omega
/-! ### going on and on -/
def it (cs : List Cov) (bef : List Int) : Nat → List Int → List Int
  | 0, xs => xs
  | k + 1, xs => it cs bef k (asks cs bef xs)
theorem it_succ' (k : Nat) (xs : List Int) : it cs bef (k + 1) xs = asks cs bef (it cs bef k xs) := by
  induction k generalizing xs with
  | zero => rfl
  | succ k ih => show it cs bef (k + 1) (asks cs bef xs) = _; rw [ih]; rfl
theorem Tab.it_acc (t : Tab n cs bef) {xs : List Int} (a : Acc cs xs) : ∀ k, Acc cs (it cs bef k xs)
  | 0 => a
  | k + 1 => by rw [it_succ']; exact t.asks_acc _
theorem Tab.it_mono (t : Tab n cs bef) {xs ys : List Int} (h : Le xs ys) : ∀ k, Le (it cs bef k xs) (it cs bef k ys)
  | 0 => h
  | k + 1 => by rw [it_succ', it_succ']; exact t.asks_mono (t.it_mono h k)
def Agrees (cs : List Cov) (bef xs : List Int) : Prop := asks cs bef xs = xs
def Backed (cs : List Cov) (bef xs : List Int) : Prop := Le xs (asks cs bef xs)
def Enough (cs : List Cov) (bef xs : List Int) : Prop := Le (asks cs bef xs) xs
theorem Agrees.backed {xs : List Int} (h : Agrees cs bef xs) : Backed cs bef xs := by unfold Backed; rw [h]; exact Le.refl _
theorem Agrees.enough {xs : List Int} (h : Agrees cs bef xs) : Enough cs bef xs := by unfold Enough; rw [h]; exact Le.refl _
theorem it_agrees {xs : List Int} (h : Agrees cs bef xs) : ∀ k, it cs bef k xs = xs
  | 0 => rfl
  | k + 1 => by rw [it_succ', it_agrees h k, h]
theorem Tab.backed_step (t : Tab n cs bef) {xs : List Int} (h : Backed cs bef xs) (k : Nat) : Le (it cs bef k xs) (it cs bef (k + 1) xs) := t.it_mono h k
theorem Tab.enough_step (t : Tab n cs bef) {xs : List Int} (h : Enough cs bef xs) (k : Nat) : Le (it cs bef (k + 1) xs) (it cs bef k xs) := t.it_mono h k
theorem Tab.backed_it (t : Tab n cs bef) {xs : List Int} (h : Backed cs bef xs) : ∀ k, Le xs (it cs bef k xs)
  | 0 => Le.refl _
  | k + 1 => (t.backed_it h k).trans (t.backed_step h k)
theorem Tab.enough_it (t : Tab n cs bef) {xs : List Int} (h : Enough cs bef xs) : ∀ k, Le (it cs bef k xs) xs
  | 0 => Le.refl _
  | k + 1 => (t.enough_step h k).trans (t.enough_it h k)
theorem Acc.sum_bd (t : Tab n cs bef) {xs : List Int} (a : Acc cs xs) : 0 ≤ xs.sum ∧ xs.sum ≤ 240 := by
  have h1 : Le (List.replicate xs.length 0) xs := ⟨by simp, fun i => by rw [bI_rep]; exact a.pos i⟩
  have h2 : Le xs (List.replicate xs.length 24) := ⟨by simp, fun i => by
    by_cases h : i < xs.length
    · have := a.bd i (by rw [← a.len]; exact h)
      have := t.most_le (i := i) (by rw [← a.len]; exact h)
      have e : bI (List.replicate xs.length 24) i = 24 := by unfold bI; rw [List.getD_eq_getElem?_getD, List.getElem?_replicate, if_pos h]; rfl
      omega
    · rw [bI_out (by omega), bI_out (by simp; omega)]; omega⟩
  have s1 := h1.sum
  have s2 := h2.sum
  have e : ∀ (m : Nat) (v : Int), (List.replicate m v).sum = m * v := by
    intro m v
    induction m with
    | zero => simp
    | succ m ih => rw [List.replicate_succ, List.sum_cons, ih, Int.natCast_succ, Int.add_mul]; omega
  rw [e] at s1 s2
  have := a.len
  have := t.few
  omega
/-- an account to which asking comes -/
theorem Tab.up_fix (t : Tab n cs bef) {xs : List Int} (a : Acc cs xs) (h : Backed cs bef xs) : ∃ k, k ≤ 240 ∧ Agrees cs bef (it cs bef k xs) := by
  suffices H : ∀ m : Nat, (∃ k, k < m ∧ Agrees cs bef (it cs bef k xs)) ∨ (m : Int) ≤ (it cs bef m xs).sum by
    rcases H 241 with ⟨k, h1, h2⟩ | h1
    · exact ⟨k, by omega, h2⟩
    · have := Acc.sum_bd t (t.it_acc a 241)
      omega
  intro m
  induction m with
  | zero => exact .inr (by have := Acc.sum_bd t a; exact this.1)
  | succ m ih =>
    rcases ih with ⟨k, h1, h2⟩ | h1
    · exact .inl ⟨k, by omega, h2⟩
    · by_cases e : Agrees cs bef (it cs bef m xs)
      · exact .inl ⟨m, by omega, e⟩
      · refine .inr ?_
        have s := t.backed_step h m
        by_cases hs : (it cs bef (m + 1) xs).sum ≤ (it cs bef m xs).sum
        · exact absurd (by rw [it_succ'] at s hs; exact (s.sum_eq hs).symm) e
        · omega
theorem Tab.down_fix (t : Tab n cs bef) {xs : List Int} (a : Acc cs xs) (h : Enough cs bef xs) : ∃ k, k ≤ 240 ∧ Agrees cs bef (it cs bef k xs) := by
  suffices H : ∀ m : Nat, (∃ k, k < m ∧ Agrees cs bef (it cs bef k xs)) ∨ (it cs bef m xs).sum ≤ 240 - (m : Int) by
    rcases H 241 with ⟨k, h1, h2⟩ | h1
    · exact ⟨k, by omega, h2⟩
    · have := Acc.sum_bd t (t.it_acc a 241)
      omega
  intro m
  induction m with
  | zero => exact .inr (by have := Acc.sum_bd t a; have := this.2; show (it cs bef 0 xs).sum ≤ _; unfold it; omega)
  | succ m ih =>
    rcases ih with ⟨k, h1, h2⟩ | h1
    · exact .inl ⟨k, by omega, h2⟩
    · by_cases e : Agrees cs bef (it cs bef m xs)
      · exact .inl ⟨m, by omega, e⟩
      · refine .inr ?_
        have s := t.enough_step h m
        by_cases hs : (it cs bef m xs).sum ≤ (it cs bef (m + 1) xs).sum
        · exact absurd (by rw [it_succ'] at s hs; exact s.sum_eq hs) e
        · omega
/-- where asking again and again comes to -/
@[irreducible] def settle (cs : List Cov) (bef xs : List Int) : List Int := it cs bef 240 xs
theorem it_add (j k : Nat) (xs : List Int) : it cs bef (j + k) xs = it cs bef k (it cs bef j xs) := by
  induction j generalizing xs with
  | zero => rw [Nat.zero_add]; rfl
  | succ j ih => rw [show j + 1 + k = (j + k) + 1 by omega]; show it cs bef (j + k) (asks cs bef xs) = _; rw [ih]; rfl
theorem settle_of {xs : List Int} {k : Nat} (hk : k ≤ 240) (h : Agrees cs bef (it cs bef k xs)) : settle cs bef xs = it cs bef k xs := by
  unfold settle
  rw [show 240 = k + (240 - k) by omega, it_add, it_agrees h]
/-- it is come to, and before it nothing agrees for the first time -/
theorem first_fix {xs : List Int} {k : Nat} (hk : k ≤ 240) (h : Agrees cs bef (it cs bef k xs)) : ∃ j, j ≤ 240 ∧ Agrees cs bef (it cs bef j xs) ∧ (∀ i, i < j → ¬ Agrees cs bef (it cs bef i xs)) ∧ settle cs bef xs = it cs bef j xs := by
  induction k using Nat.strongRecOn with
  | ind k ih =>
    by_cases e : ∃ i, i < k ∧ Agrees cs bef (it cs bef i xs)
    · obtain ⟨i, h1, h2⟩ := e
      exact ih i h1 (by omega) h2
    · exact ⟨k, hk, h, fun i hi hc => e ⟨i, hi, hc⟩, settle_of hk h⟩
theorem Tab.settle_up (t : Tab n cs bef) {xs : List Int} (a : Acc cs xs) (h : Backed cs bef xs) : Agrees cs bef (settle cs bef xs) ∧ Acc cs (settle cs bef xs) ∧ Le xs (settle cs bef xs) ∧ ∀ ys, Enough cs bef ys → Le xs ys → Le (settle cs bef xs) ys := by
  obtain ⟨k, h1, h2⟩ := t.up_fix a h
  refine ⟨by rw [settle_of h1 h2]; exact h2, by unfold settle; exact t.it_acc a _, by unfold settle; exact t.backed_it h _, fun ys he hl => ?_⟩
  unfold settle
  exact (t.it_mono hl 240).trans (t.enough_it he 240)
theorem Tab.settle_down (t : Tab n cs bef) {xs : List Int} (a : Acc cs xs) (h : Enough cs bef xs) : Agrees cs bef (settle cs bef xs) ∧ Acc cs (settle cs bef xs) ∧ Le (settle cs bef xs) xs ∧ ∀ ys, Backed cs bef ys → Le ys xs → Le ys (settle cs bef xs) := by
  obtain ⟨k, h1, h2⟩ := t.down_fix a h
  refine ⟨by rw [settle_of h1 h2]; exact h2, by unfold settle; exact t.it_acc a _, by unfold settle; exact t.enough_it h _, fun ys he hl => ?_⟩
  unfold settle
  exact (t.backed_it he 240).trans (t.it_mono hl 240)
/-! ### the least, the greatest -/
def zeros (cs : List Cov) : List Int := List.replicate cs.length 0
def mosts (cs : List Cov) : List Int := cs.map cM
@[irreducible] def least (cs : List Cov) (bef : List Int) : List Int := settle cs bef (zeros cs)
@[irreducible] def greatest (cs : List Cov) (bef : List Int) : List Int := settle cs bef (mosts cs)
theorem bI_mosts {i : Nat} (h : i < cs.length) : bI (mosts cs) i = cM (cAt cs i) := by
  unfold bI mosts
  rw [List.getD_eq_getElem?_getD, List.getElem?_map, get_cAt h]; rfl
theorem Tab.zeros_acc (t : Tab n cs bef) : Acc cs (zeros cs) := ⟨by simp [zeros], fun i h => by unfold zeros; rw [bI_rep]; have := t.most_le h; omega⟩
theorem Tab.mosts_acc (t : Tab n cs bef) : Acc cs (mosts cs) := ⟨by simp [mosts], fun i h => by rw [bI_mosts h]; have := t.most_le h; omega⟩
theorem Acc.zeros_le {xs : List Int} (a : Acc cs xs) : Le (zeros cs) xs := ⟨by simp [zeros, a.len], fun i => by unfold zeros; rw [bI_rep]; exact a.pos i⟩
theorem Acc.le_mosts {xs : List Int} (a : Acc cs xs) : Le xs (mosts cs) := ⟨by simp [mosts, a.len], fun i => by
  by_cases h : i < cs.length
  · rw [bI_mosts h]; exact (a.bd i h).2
  · rw [bI_out (by rw [a.len]; omega), bI_out (by simp [mosts]; omega)]; omega⟩
theorem Tab.zeros_backed (t : Tab n cs bef) : Backed cs bef (zeros cs) := (t.asks_acc _).zeros_le
theorem Tab.mosts_enough (t : Tab n cs bef) : Enough cs bef (mosts cs) := (t.asks_acc _).le_mosts
theorem Tab.least_ok (t : Tab n cs bef) : Agrees cs bef (least cs bef) ∧ Acc cs (least cs bef) ∧ ∀ ys, Acc cs ys → Enough cs bef ys → Le (least cs bef) ys := by
  unfold least
  obtain ⟨h1, h2, _, h4⟩ := t.settle_up t.zeros_acc t.zeros_backed
  exact ⟨h1, h2, fun ys a e => h4 ys e a.zeros_le⟩
theorem Tab.greatest_ok (t : Tab n cs bef) : Agrees cs bef (greatest cs bef) ∧ Acc cs (greatest cs bef) ∧ ∀ ys, Acc cs ys → Backed cs bef ys → Le ys (greatest cs bef) := by
  unfold greatest
  obtain ⟨h1, h2, _, h4⟩ := t.settle_down t.mosts_acc t.mosts_enough
  exact ⟨h1, h2, fun ys a e => h4 ys e a.le_mosts⟩
end
end RC

set_option Elab.async false
set_option linter.all false
set_option maxRecDepth 100000
set_option maxHeartbeats 1000000
/-! S4: raising and lowering, joining, comparing. -/
namespace RC
open PySem PySem.Spec PyProof.Rows L2
def LeB (xs ys : List Int) : Bool := (List.range xs.length).all fun i => decide (bI xs i ≤ bI ys i)
theorem LeB_iff {xs ys : List Int} (h : xs.length = ys.length) : LeB xs ys = true ↔ Le xs ys := by
  unfold LeB
  rw [List.all_eq_true]
  constructor
  · intro z
    refine ⟨h, fun i => ?_⟩
    by_cases hi : i < xs.length
    · have := z i (List.mem_range.mpr hi)
      simpa using this
    · rw [bI_out (by omega), bI_out (by omega)]; omega
  · intro z i _
    simpa using z.le i
def vmax (xs ys : List Int) : List Int := (rngI 0 xs.length).map fun j : Int => iMax (bI xs j.toNat) (bI ys j.toNat)
def vmin (xs ys : List Int) : List Int := (rngI 0 xs.length).map fun j : Int => iMin (bI xs j.toNat) (bI ys j.toNat)
@[simp] theorem vmax_len (xs ys : List Int) : (vmax xs ys).length = xs.length := by simp [vmax]
@[simp] theorem vmin_len (xs ys : List Int) : (vmin xs ys).length = xs.length := by simp [vmin]
theorem bI_rmap {n i : Nat} {f : Int → Int} (h : i < n) : bI ((rngI 0 n).map f) i = f (i : Int) := by
  unfold bI
  rw [List.getD_eq_getElem?_getD, List.getElem?_map, rngI_get h]
  simp
theorem bI_vmax {xs ys : List Int} {i : Nat} (h : i < xs.length) : bI (vmax xs ys) i = iMax (bI xs i) (bI ys i) := by
  unfold vmax; rw [bI_rmap h]; rfl
theorem bI_vmin {xs ys : List Int} {i : Nat} (h : i < xs.length) : bI (vmin xs ys) i = iMin (bI xs i) (bI ys i) := by
  unfold vmin; rw [bI_rmap h]; rfl
theorem le_vmax {xs ys : List Int} (h : xs.length = ys.length) : Le xs (vmax xs ys) ∧ Le ys (vmax xs ys) := by
  refine ⟨⟨by simp, fun i => ?_⟩, ⟨by simp [h], fun i => ?_⟩⟩ <;>
  · by_cases hi : i < xs.length
    · rw [bI_vmax hi]; have := iMax_le (bI xs i) (bI ys i); omega
    · rw [bI_out (show _ ≤ i by first | omega | (simp; omega)), bI_out (show _ ≤ i by first | omega | (simp; omega))]; omega
theorem vmin_le {xs ys : List Int} (h : xs.length = ys.length) : Le (vmin xs ys) xs ∧ Le (vmin xs ys) ys := by
  refine ⟨⟨by simp, fun i => ?_⟩, ⟨by simp [h], fun i => ?_⟩⟩ <;>
  · by_cases hi : i < xs.length
    · rw [bI_vmin hi]; have := iMin_le (bI xs i) (bI ys i); omega
    · rw [bI_out (show _ ≤ i by first | omega | (simp; omega)), bI_out (show _ ≤ i by first | omega | (simp; omega))]; omega
theorem vmax_lub {xs ys zs : List Int} (h1 : Le xs zs) (h2 : Le ys zs) : Le (vmax xs ys) zs := ⟨by simp [h1.len], fun i => by
  by_cases hi : i < xs.length
  · rw [bI_vmax hi]; have := iMax_le (bI xs i) (bI ys i); have := h1.le i; have := h2.le i; omega
  · rw [bI_out (by simp; omega), bI_out (by rw [← h1.len]; omega)]; omega⟩
theorem vmin_glb {xs ys zs : List Int} (h1 : Le zs xs) (h2 : Le zs ys) : Le zs (vmin xs ys) := ⟨by simp [h1.len], fun i => by
  by_cases hi : i < xs.length
  · rw [bI_vmin hi]; have := iMin_le (bI xs i) (bI ys i); have := h1.le i; have := h2.le i; omega
  · rw [bI_out (show (vmin xs ys).length ≤ i by simp; omega), bI_out (by rw [h1.len]; omega)]; omega⟩
theorem vmax_acc {cs : List Cov} {xs ys : List Int} (a : Acc cs xs) (b : Acc cs ys) : Acc cs (vmax xs ys) := ⟨by simp [a.len], fun i hi => by
  rw [bI_vmax (by rw [a.len]; exact hi)]
  have := a.bd i hi; have := b.bd i hi; have := iMax_le (bI xs i) (bI ys i); omega⟩
theorem vmin_acc {cs : List Cov} {xs ys : List Int} (a : Acc cs xs) (b : Acc cs ys) : Acc cs (vmin xs ys) := ⟨by simp [a.len], fun i hi => by
  rw [bI_vmin (by rw [a.len]; exact hi)]
  have := a.bd i hi; have := b.bd i hi; have := iMin_le (bI xs i) (bI ys i); omega⟩
section
variable {n : Nat} {cs : List Cov} {bef : List Int}
/-! ### raising until enough, lowering until backed -/
def rise (cs : List Cov) (bef xs : List Int) : List Int := vmax xs (asks cs bef xs)
def sink (cs : List Cov) (bef xs : List Int) : List Int := vmin xs (asks cs bef xs)
def rises (cs : List Cov) (bef : List Int) : Nat → List Int → List Int
  | 0, xs => xs
  | k + 1, xs => rise cs bef (rises cs bef k xs)
def sinks (cs : List Cov) (bef : List Int) : Nat → List Int → List Int
  | 0, xs => xs
  | k + 1, xs => sink cs bef (sinks cs bef k xs)
theorem Tab.rises_acc (t : Tab n cs bef) {xs : List Int} (a : Acc cs xs) : ∀ k, Acc cs (rises cs bef k xs)
  | 0 => a
  | k + 1 => vmax_acc (t.rises_acc a k) (t.asks_acc _)
theorem Tab.sinks_acc (t : Tab n cs bef) {xs : List Int} (a : Acc cs xs) : ∀ k, Acc cs (sinks cs bef k xs)
  | 0 => a
  | k + 1 => vmin_acc (t.sinks_acc a k) (t.asks_acc _)
theorem Tab.asks_len (t : Tab n cs bef) {xs : List Int} (a : Acc cs xs) : xs.length = (asks cs bef xs).length := by rw [a.len, (t.asks_acc xs).len]
theorem Tab.rise_le (t : Tab n cs bef) {xs : List Int} (a : Acc cs xs) : Le xs (rise cs bef xs) := (le_vmax (t.asks_len a)).1
theorem Tab.sink_le (t : Tab n cs bef) {xs : List Int} (a : Acc cs xs) : Le (sink cs bef xs) xs := (vmin_le (t.asks_len a)).1
theorem Tab.rises_le (t : Tab n cs bef) {xs : List Int} (a : Acc cs xs) : ∀ k, Le xs (rises cs bef k xs)
  | 0 => Le.refl _
  | k + 1 => (t.rises_le a k).trans (t.rise_le (t.rises_acc a k))
theorem Tab.sinks_le (t : Tab n cs bef) {xs : List Int} (a : Acc cs xs) : ∀ k, Le (sinks cs bef k xs) xs
  | 0 => Le.refl _
  | k + 1 => (t.sink_le (t.sinks_acc a k)).trans (t.sinks_le a k)
theorem Tab.rise_fix (t : Tab n cs bef) {xs : List Int} (a : Acc cs xs) : rise cs bef xs = xs ↔ Enough cs bef xs := by
  constructor
  · intro h
    have := (le_vmax (t.asks_len a)).2
    unfold rise at h
    rw [h] at this
    exact this
  · intro h
    exact Le.antisymm (vmax_lub (Le.refl _) h) (t.rise_le a)
theorem Tab.sink_fix (t : Tab n cs bef) {xs : List Int} (a : Acc cs xs) : sink cs bef xs = xs ↔ Backed cs bef xs := by
  constructor
  · intro h
    have := (vmin_le (t.asks_len a)).2
    unfold sink at h
    rw [h] at this
    exact this
  · intro h
    exact Le.antisymm (t.sink_le a) (vmin_glb (Le.refl _) h)
theorem rises_stay {xs : List Int} {k : Nat} (h : rise cs bef (rises cs bef k xs) = rises cs bef k xs) : ∀ j, rises cs bef (k + j) xs = rises cs bef k xs
  | 0 => rfl
  | j + 1 => by show rise cs bef (rises cs bef (k + j) xs) = _; rw [rises_stay h j, h]
theorem sinks_stay {xs : List Int} {k : Nat} (h : sink cs bef (sinks cs bef k xs) = sinks cs bef k xs) : ∀ j, sinks cs bef (k + j) xs = sinks cs bef k xs
  | 0 => rfl
  | j + 1 => by show sink cs bef (sinks cs bef (k + j) xs) = _; rw [sinks_stay h j, h]
theorem Tab.rises_end (t : Tab n cs bef) {xs : List Int} (a : Acc cs xs) : Enough cs bef (rises cs bef 241 xs) := by
  suffices H : ∀ m : Nat, (∃ k, k < m ∧ rise cs bef (rises cs bef k xs) = rises cs bef k xs) ∨ (m : Int) ≤ (rises cs bef m xs).sum by
    rcases H 241 with ⟨k, h1, h2⟩ | h1
    · rw [show 241 = k + (241 - k) by omega, rises_stay h2]
      exact (t.rise_fix (t.rises_acc a k)).mp h2
    · have := Acc.sum_bd t (t.rises_acc a 241)
      omega
  intro m
  induction m with
  | zero => exact .inr (by have := Acc.sum_bd t a; exact this.1)
  | succ m ih =>
    rcases ih with ⟨k, h1, h2⟩ | h1
    · exact .inl ⟨k, by omega, h2⟩
    · by_cases e : rise cs bef (rises cs bef m xs) = rises cs bef m xs
      · exact .inl ⟨m, by omega, e⟩
      · refine .inr ?_
        have s := t.rise_le (t.rises_acc a m)
        by_cases hs : (rises cs bef (m + 1) xs).sum ≤ (rises cs bef m xs).sum
        · exact absurd (s.sum_eq hs).symm e
        · omega
theorem Tab.sinks_end (t : Tab n cs bef) {xs : List Int} (a : Acc cs xs) : Backed cs bef (sinks cs bef 241 xs) := by
  suffices H : ∀ m : Nat, (∃ k, k < m ∧ sink cs bef (sinks cs bef k xs) = sinks cs bef k xs) ∨ (sinks cs bef m xs).sum ≤ 240 - (m : Int) by
    rcases H 241 with ⟨k, h1, h2⟩ | h1
    · rw [show 241 = k + (241 - k) by omega, sinks_stay h2]
      exact (t.sink_fix (t.sinks_acc a k)).mp h2
    · have := Acc.sum_bd t (t.sinks_acc a 241)
      omega
  intro m
  induction m with
  | zero => exact .inr (by have := (Acc.sum_bd t a).2; show xs.sum ≤ _; omega)
  | succ m ih =>
    rcases ih with ⟨k, h1, h2⟩ | h1
    · exact .inl ⟨k, by omega, h2⟩
    · by_cases e : sink cs bef (sinks cs bef m xs) = sinks cs bef m xs
      · exact .inl ⟨m, by omega, e⟩
      · refine .inr ?_
        have s := t.sink_le (t.sinks_acc a m)
        by_cases hs : (sinks cs bef m xs).sum ≤ (sinks cs bef (m + 1) xs).sum
        · exact absurd (s.sum_eq hs) e
        · omega
/-- where asking comes to, in 241 turns -/
@[irreducible] def come (cs : List Cov) (bef xs : List Int) : List Int := it cs bef 241 xs
@[irreducible] def fill (cs : List Cov) (bef xs : List Int) : List Int := rises cs bef 241 xs
@[irreducible] def thin (cs : List Cov) (bef xs : List Int) : List Int := sinks cs bef 241 xs
theorem come_settle {xs : List Int} (h : Agrees cs bef (settle cs bef xs)) : come cs bef xs = settle cs bef xs := by
  unfold come settle at *
  rw [it_succ']; exact h
theorem settle_fix {xs : List Int} (h : Agrees cs bef xs) : settle cs bef xs = xs := by unfold settle; exact it_agrees h _
theorem Tab.fill_ok (t : Tab n cs bef) {xs : List Int} (a : Acc cs xs) : Acc cs (fill cs bef xs) ∧ Enough cs bef (fill cs bef xs) ∧ Le xs (fill cs bef xs) := by
  unfold fill; exact ⟨t.rises_acc a _, t.rises_end a, t.rises_le a _⟩
theorem Tab.thin_ok (t : Tab n cs bef) {xs : List Int} (a : Acc cs xs) : Acc cs (thin cs bef xs) ∧ Backed cs bef (thin cs bef xs) ∧ Le (thin cs bef xs) xs := by
  unfold thin; exact ⟨t.sinks_acc a _, t.sinks_end a, t.sinks_le a _⟩
end
end RC

set_option Elab.async false
set_option linter.all false
set_option maxRecDepth 100000
set_option maxHeartbeats 1000000
/-! S5: one crown more. -/
namespace RC
open PySem PySem.Spec PyProof.Rows L2
def inc (l : List Int) (h : Nat) : List Int := l.set h (bI l h + 1)
@[simp] theorem inc_len (l : List Int) (h : Nat) : (inc l h).length = l.length := by simp [inc]
theorem bI_inc {l : List Int} {h i : Nat} : bI (inc l h) i = if h = i ∧ h < l.length then bI l i + 1 else bI l i := by
  unfold inc
  rw [bI_set']
  split
  · rename_i e; rw [e.1]
  · rfl
theorem le_inc (l : List Int) (h : Nat) : Le l (inc l h) := ⟨by simp, fun i => by rw [bI_inc]; split <;> omega⟩
theorem inc_sum {l : List Int} {h : Nat} (hh : h < l.length) : (inc l h).sum = l.sum + 1 := by
  unfold inc; rw [sum_inc _ _ _ hh]; omega
theorem inc_comm (l : List Int) (h k : Nat) : inc (inc l h) k = inc (inc l k) h := ext_bI (by simp) fun i _ => by
  rw [bI_inc, bI_inc, bI_inc, bI_inc]; simp only [inc_len]
  split <;> split <;> rfl
theorem addP_inc (ls : Ln) (bs f : List Int) (h : Nat) : ∀ k, addP ls bs (inc f h) k = inc (addP ls bs f k) h
  | 0 => rfl
  | k + 1 => by
    unfold addP
    rw [addP_inc ls bs f h k]
    refine ext_bI (by simp) fun i _ => ?_
    rw [bI_set', bI_inc, bI_inc, bI_inc, bI_set']
    simp only [inc_len, List.length_set]
    split
    · rename_i e
      obtain ⟨e1, e2⟩ := e
      subst e1
      split <;> simp_all <;> omega
    · rename_i e
      split <;> simp_all
theorem addL_inc (ls : Ln) (b : Int) (f : List Int) (h : Nat) : addL ls b (inc f h) = inc (addL ls b f) h := addP_inc _ _ _ _ _
theorem loads_inc : ∀ (cs : List Cov) (xs f : List Int) (h : Nat), loads cs xs (inc f h) = inc (loads cs xs f) h
  | [], _, _, _ => rfl
  | c :: cs, [], _, _ => rfl
  | c :: cs, x :: xs, f, h => by rw [loads_cons, loads_cons, addL_inc, loads_inc cs xs]
/-- one part more of a bill, laid on the houses -/
theorem addP_part (ls : Ln) (bs f : List Int) (p : Nat) (hp : p < bs.length) : ∀ k, addP ls (inc bs p) f k = if p < k then inc (addP ls bs f k) (hA ls p).toNat else addP ls bs f k
  | 0 => rfl
  | k + 1 => by
    have ih := addP_part ls bs f p hp k
    by_cases c : p < k
    · rw [if_pos c] at ih
      rw [if_pos (by omega)]
      unfold addP
      rw [ih]
      refine ext_bI (by simp) fun i _ => ?_
      rw [bI_set', bI_inc, bI_inc, bI_inc, bI_inc, bI_set']
      simp only [inc_len, List.length_set]
      rw [if_neg (show ¬ (p = k ∧ p < bs.length) by omega)]
      split
      · rename_i e
        obtain ⟨e1, e2⟩ := e
        subst e1
        split <;> simp_all <;> omega
      · rename_i e
        split <;> simp_all
    · rw [if_neg c] at ih
      by_cases e : p = k
      · subst e
        rw [if_pos (by omega)]
        unfold addP
        rw [ih]
        refine ext_bI (by simp) fun i _ => ?_
        rw [bI_set', bI_inc, bI_inc, bI_set']
        simp only [List.length_set]
        rw [if_pos (show True ∧ p < bs.length from ⟨trivial, hp⟩)]
        split <;> omega
      · rw [if_neg (by omega)]
        unfold addP
        rw [ih, bI_inc, if_neg (by omega)]
theorem dealt_inc (ls : Ln) (n : Nat) : dealt ls (n + 1) = inc (dealt ls n) (foremost ls (dealt ls n)) := rfl
theorem addL_more {ls : Ln} (h1 : 1 ≤ ls.length) {b : Int} (hb : 0 ≤ b) (f : List Int) : addL ls (b + 1) f = inc (addL ls b f) (hA ls (foremost ls (dealt ls b.toNat))).toNat := by
  unfold addL
  have e : (b + 1).toNat = b.toNat + 1 := by omega
  have hf := foremost_lt (bs := dealt ls b.toNat) h1
  rw [e, dealt_inc, addP_part _ _ _ _ (by rw [dealt_len]; exact hf), if_pos hf]
/-- one crown more of one bill -/
theorem loads_more : ∀ {cs : List Cov} {xs f : List Int} {j : Nat}, (∀ c ∈ cs, Lines (cL c) ∧ ∀ p ∈ cL c, p.1 < f.length) → xs.length = cs.length → Pos xs → j < cs.length → ∃ h, h < f.length ∧ loads cs (inc xs j) f = inc (loads cs xs f) h
  | c :: cs, x :: xs, f, 0, h, _, hp, _ => by
    have hc := h c List.mem_cons_self
    have hx : 0 ≤ x := hp 0
    have hf := foremost_lt (bs := dealt (cL c) x.toNat) hc.1.good.pos
    have hm := hA_mem hf
    have h1 := hc.1.house _ hm
    have h2 := hc.2 _ hm
    refine ⟨(hA (cL c) (foremost (cL c) (dealt (cL c) x.toNat))).toNat, by omega, ?_⟩
    show loads (c :: cs) ((x + 1) :: xs) f = _
    rw [loads_cons, loads_cons, addL_more hc.1.good.pos hx, loads_inc]
  | c :: cs, x :: xs, f, j + 1, h, hl, hp, hj => by
    obtain ⟨h', h1, h2⟩ := loads_more (cs := cs) (xs := xs) (f := addL (cL c) x f) (j := j) (fun c' hc' => by rw [addL_len]; exact h c' (List.mem_cons_of_mem _ hc')) (by simpa using hl) (fun i => hp (i + 1)) (by simpa using hj)
    refine ⟨h', by simpa using h1, ?_⟩
    show loads (c :: cs) (x :: inc xs j) f = _
    rw [loads_cons, loads_cons, h2]
/-- one crown more that reaches a house: one bill more, or one crown more kept -/
theorem pass_unit : ∀ {cs : List Cov} {l : List Int} {h : Nat}, Kinds cs → Pos l → h < l.length →
    (∃ j, j < cs.length ∧ (pass cs (inc l h)).1 = inc (pass cs l).1 j ∧ (pass cs (inc l h)).2 = (pass cs l).2) ∨ ((pass cs (inc l h)).1 = (pass cs l).1 ∧ (pass cs (inc l h)).2 = inc (pass cs l).2 h)
  | [], l, h, _, _, _ => .inr ⟨rfl, rfl⟩
  | c :: cs, l, h, hk, hp, hh => by
    have k := hk c List.mem_cons_self
    have kt : Kinds cs := fun c' hc => hk c' (List.mem_cons_of_mem _ hc)
    have ih := pass_unit (cs := cs) (l := left1 c l) (h := h) kt (left1_pos k hp) (by simpa using hh)
    by_cases e : (cH c).toNat = h
    · have hr : bI (inc l h) (cH c).toNat = bI l (cH c).toNat + 1 := by rw [bI_inc, if_pos ⟨e.symm, hh⟩]
      rcases tk_step (most := cM c) k.1 (hp (cH c).toNat) with s | s
      · have ea : ask1 c (inc l h) = ask1 c l := by unfold ask1; rw [hr, s]
        have el : left1 c (inc l h) = inc (left1 c l) h := ext_bI (by simp) fun i _ => by
          rw [left1_bI, bI_inc, bI_inc, left1_bI, ea]
          simp only [inc_len, left1_len, e]
          split <;> simp_all <;> omega
        show (∃ j, j < (c :: cs).length ∧ ask1 c (inc l h) :: (pass cs (left1 c (inc l h))).1 = inc (ask1 c l :: (pass cs (left1 c l)).1) j ∧ (pass cs (left1 c (inc l h))).2 = (pass cs (left1 c l)).2) ∨ (ask1 c (inc l h) :: (pass cs (left1 c (inc l h))).1 = ask1 c l :: (pass cs (left1 c l)).1 ∧ (pass cs (left1 c (inc l h))).2 = inc (pass cs (left1 c l)).2 h)
        rw [ea, el]
        rcases ih with ⟨j, r1, r2, r3⟩ | ⟨r1, r2⟩
        · exact .inl ⟨j + 1, by simpa using r1, by rw [r2]; rfl, r3⟩
        · exact .inr ⟨by rw [r1], r2⟩
      · have ea : ask1 c (inc l h) = ask1 c l + 1 := by unfold ask1; rw [hr, s]
        have el : left1 c (inc l h) = left1 c l := ext_bI (by simp) fun i _ => by
          rw [left1_bI, bI_inc, left1_bI, ea]
          simp only [inc_len, e]
          split <;> simp_all <;> omega
        refine .inl ⟨0, by simp, ?_, ?_⟩
        · show ask1 c (inc l h) :: (pass cs (left1 c (inc l h))).1 = inc (ask1 c l :: (pass cs (left1 c l)).1) 0
          rw [ea, el]; rfl
        · show (pass cs (left1 c (inc l h))).2 = (pass cs (left1 c l)).2
          rw [el]
    · have hr : bI (inc l h) (cH c).toNat = bI l (cH c).toNat := by rw [bI_inc, if_neg (fun z => e z.1.symm)]
      have ea : ask1 c (inc l h) = ask1 c l := by unfold ask1; rw [hr]
      have el : left1 c (inc l h) = inc (left1 c l) h := ext_bI (by simp) fun i _ => by
        rw [left1_bI, bI_inc, bI_inc, left1_bI, ea]
        simp only [inc_len, left1_len]
        split <;> split <;> simp_all <;> omega
      show (∃ j, j < (c :: cs).length ∧ ask1 c (inc l h) :: (pass cs (left1 c (inc l h))).1 = inc (ask1 c l :: (pass cs (left1 c l)).1) j ∧ (pass cs (left1 c (inc l h))).2 = (pass cs (left1 c l)).2) ∨ (ask1 c (inc l h) :: (pass cs (left1 c (inc l h))).1 = ask1 c l :: (pass cs (left1 c l)).1 ∧ (pass cs (left1 c (inc l h))).2 = inc (pass cs (left1 c l)).2 h)
      rw [ea, el]
      rcases ih with ⟨j, r1, r2, r3⟩ | ⟨r1, r2⟩
      · exact .inl ⟨j + 1, by simpa using r1, by rw [r2]; rfl, r3⟩
      · exact .inr ⟨by rw [r1], r2⟩
section
variable {n : Nat} {cs : List Cov} {bef : List Int}
theorem Tab.loads_more (t : Tab n cs bef) {xs : List Int} (a : Acc cs xs) {j : Nat} (hj : j < cs.length) : ∃ h, h < n ∧ loads cs (inc xs j) bef = inc (loads cs xs bef) h := by
  have := RC.loads_more (cs := cs) (xs := xs) (f := bef) (j := j) (fun c h => ⟨(t.rows c h).lines, fun p hp => by have := (t.rows c h).others p hp; rw [t.len]; omega⟩) a.len a.pos hj
  rw [t.len] at this
  exact this
/-- the crown wanders until it rests -/
theorem Tab.wander {h : Nat} (t : Tab n cs bef) (k0 : List Int) : ∀ (m : Nat) (a l : List Int) (h : Nat), (240 - a.sum).toNat ≤ m → Acc cs a → Le a (least cs bef) → h < n → l.length = n → Pos l → pass cs l = (a, k0) → loads cs a bef = inc l h →
    ∃ r, r < n ∧ lefts cs bef (least cs bef) = inc k0 r
  | m, a, l, h, hm, ha, hle, hh, hl, hp, hpass, hloads => by
    have L := t.least_ok
    rcases pass_unit (cs := cs) (l := l) (h := h) t.kinds hp (by omega) with ⟨j, hj, p1, p2⟩ | ⟨p1, p2⟩
    · have ea : asks cs bef a = inc a j := by unfold asks; rw [hloads, p1, hpass]
      have hacc : Acc cs (inc a j) := ea ▸ t.asks_acc a
      have hs := (Acc.sum_bd t hacc).2
      rw [inc_sum (by rw [ha.len]; exact hj)] at hs
      have hle' : Le (inc a j) (least cs bef) := by
        have := t.asks_mono hle
        rw [ea, L.1] at this
        exact this
      obtain ⟨h2, h2n, hl2⟩ := t.loads_more ha hj
      match m, hm with
      | 0, hm => omega
      | m + 1, hm =>
        exact t.wander (h := h) k0 m (inc a j) (inc l h) h2 (by rw [inc_sum (by rw [ha.len]; exact hj)]; omega) hacc hle' h2n (by simp [hl]) (pos_of_le (le_inc l h) hp)
          (Prod.ext (by rw [p1, hpass]) (by rw [p2, hpass])) (by rw [hl2, hloads])
    · have ea : asks cs bef a = a := by unfold asks; rw [hloads, p1, hpass]
      have e : least cs bef = a := Le.antisymm (L.2.2 a ha (Agrees.enough ea)) hle
      refine ⟨h, hh, ?_⟩
      rw [e]
      unfold lefts
      rw [hloads, p2, hpass]
/-- one crown more that a house loses: one house keeps one crown more -/
theorem Tab.one_more {h : Nat} (t : Tab n cs bef) (t' : Tab n cs (inc bef h)) (hh : h < n) :
    (∃ r, r < n ∧ lefts cs (inc bef h) (least cs (inc bef h)) = inc (lefts cs bef (least cs bef)) r) ∧ Le (least cs bef) (least cs (inc bef h)) := by
  have L := t.least_ok
  have L' := t'.least_ok
  have hle : Le (least cs bef) (least cs (inc bef h)) := by
    refine L.2.2 _ L'.2.1 ?_
    have : Le (asks cs bef (least cs (inc bef h))) (asks cs (inc bef h) (least cs (inc bef h))) :=
      (pass_mono t.kinds (t.loads_pos _) (loads_mono (Le.refl _) (le_inc bef h))).1
    rw [L'.1] at this
    exact this
  refine ⟨?_, hle⟩
  exact t'.wander (h := h) (lefts cs bef (least cs bef)) _ (least cs bef) (loads cs (least cs bef) bef) h (Nat.le_refl _) L.2.1 hle hh (by rw [loads_len, t.len]) (t.loads_pos _)
    (Prod.ext (by show asks cs bef (least cs bef) = _; rw [L.1]) rfl) (loads_inc _ _ _ _)
end
end RC

set_option Elab.async false
set_option linter.all false
set_option maxRecDepth 100000
set_option maxHeartbeats 1000000
namespace RC
open PySem PySem.Spec PyProof.Rows L2

structure YTable where
  size : Int
  rows : (List (Int × Str × Int × Int × (List (Int × Int × Unit)) × Unit))
  befell : (List Int)
  splits : (List (List (List Int)))
def e_Table (t : YTable) : D := .obj "Table" [(("size" : Str), D.int t.size), (("rows" : Str), (eL (eT (eP D.int (eP D.str (eP D.int (eP D.int (eP (eS (eT (eP D.int (eP D.int eU)))) eU))))))) t.rows), (("befell" : Str), (eL D.int) t.befell), (("splits" : Str), (eL (eL (eL D.int))) t.splits)]
def o_Table (t : YTable) : O := .obj "Table" [(("size" : Str), .fz (D.int t.size)), (("rows" : Str), .fz ((eL (eT (eP D.int (eP D.str (eP D.int (eP D.int (eP (eS (eT (eP D.int (eP D.int eU)))) eU))))))) t.rows)), (("befell" : Str), .fz ((eL D.int) t.befell)), (("splits" : Str), .fz ((eL (eL (eL D.int))) t.splits))]
theorem cold_Table (t : YTable) : (o_Table t).cold = e_Table t := rfl
theorem at_Table_size (t : YTable) : attD "Table" "size" (e_Table t) = some (D.int t.size) := att_x (by simp [List.lookup])
theorem put_Table_size ( x : F) : putFd "size" x [] = [(("size" : Str), x)] := by simp [putFd]
theorem at_Table_rows (t : YTable) : attD "Table" "rows" (e_Table t) = some ((eL (eT (eP D.int (eP D.str (eP D.int (eP D.int (eP (eS (eT (eP D.int (eP D.int eU)))) eU))))))) t.rows) := att_x (by simp [List.lookup, show (("rows" : Str) == "size") = false by decide +kernel])
theorem put_Table_rows (x0 x : F) : putFd "rows" x [(("size" : Str), x0)] = [(("size" : Str), x0), (("rows" : Str), x)] := by simp [putFd, show ¬ (("size" : Str) = "rows") by decide +kernel]
theorem at_Table_befell (t : YTable) : attD "Table" "befell" (e_Table t) = some ((eL D.int) t.befell) := att_x (by simp [List.lookup, show (("befell" : Str) == "size") = false by decide +kernel, show (("befell" : Str) == "rows") = false by decide +kernel])
theorem put_Table_befell (x0 x1 x : F) : putFd "befell" x [(("size" : Str), x0), (("rows" : Str), x1)] = [(("size" : Str), x0), (("rows" : Str), x1), (("befell" : Str), x)] := by simp [putFd, show ¬ (("size" : Str) = "befell") by decide +kernel, show ¬ (("rows" : Str) = "befell") by decide +kernel]
theorem at_Table_splits (t : YTable) : attD "Table" "splits" (e_Table t) = some ((eL (eL (eL D.int))) t.splits) := att_x (by simp [List.lookup, show (("splits" : Str) == "size") = false by decide +kernel, show (("splits" : Str) == "rows") = false by decide +kernel, show (("splits" : Str) == "befell") = false by decide +kernel])
theorem put_Table_splits (x0 x1 x2 x : F) : putFd "splits" x [(("size" : Str), x0), (("rows" : Str), x1), (("befell" : Str), x2)] = [(("size" : Str), x0), (("rows" : Str), x1), (("befell" : Str), x2), (("splits" : Str), x)] := by simp [putFd, show ¬ (("size" : Str) = "splits") by decide +kernel, show ¬ (("rows" : Str) = "splits") by decide +kernel, show ¬ (("befell" : Str) = "splits") by decide +kernel]
theorem io_Table_loads (t : YTable) : isObjD "Table" "loads" (e_Table t) = true := isO_x (ks := ["size", "rows", "befell", "splits"]) rfl (by decide +kernel)
theorem io_Table_mosts (t : YTable) : isObjD "Table" "mosts" (e_Table t) = true := isO_x (ks := ["size", "rows", "befell", "splits"]) rfl (by decide +kernel)
theorem io_Table_passed (t : YTable) : isObjD "Table" "passed" (e_Table t) = true := isO_x (ks := ["size", "rows", "befell", "splits"]) rfl (by decide +kernel)
def isT (c N : Str) : Bool := c == N || N == "ValueError"
def seenBL (c : Str) : List Bool := [isT c "ValueError", isT c "BadHouses", isT c "BadLines", isT c "BadCover", isT c "BadCrowns", isT c "BadLosses", isT c "BadAccount", isT c "Unbacked", isT c "Short", isT c "Disagrees", isT c "NoHouse", isT c "NoCover", isT c "NoHappening", isT c "NoLoss", isT c "BadDay", isT c "BadTerms", isT c "Endless", isT c "Same", isT c "Full", isT c "BadDeed", isT c "Nothing", isT c "BadText"]
def seenB_ (c : Str) : Option (List Bool) := if c = "BadHouses" ∨ c = "BadCover" ∨ c = "BadLosses" ∨ c = "BadAccount" ∨ c = "Unbacked" ∨ c = "Short" ∨ c = "Disagrees" then some (seenBL c) else none
def ring_ (c : Str) : Option Bool := if c = "BadHouses" ∨ c = "BadCover" ∨ c = "BadLosses" ∨ c = "BadAccount" ∨ c = "Unbacked" ∨ c = "Short" ∨ c = "Disagrees" then some true else none
def b_are_lines_l1 : ((List Int) × Unit) → (Int × Int × Unit) → TF ((List Int) × Unit) ((List Int) × Unit) Bool Unit :=
  fun v2 v3 => (tIf () (tOr (tI iLt (Res.ok v3.1) (Res.ok (0 : Int))) (tOr (tI iGe (Res.ok v3.1) (Res.ok (6 : Int))) (tOr (tD dIn D.int (eL D.int) (Res.ok v3.1) (Res.ok v2.1)) (tOr (tI iLt (Res.ok v3.2.1) (Res.ok (1 : Int))) (tI iGt (Res.ok v3.2.1) (Res.ok (20 : Int)))))))
  (TF.abs ((Res.ok false).thn () fun a => .rt a))
  ((tAppn v2.1 (Res.ok v3.1)).thn () fun v4 => 
  (.nx (v4, ()))))
def b_are_lines (a0 : (List (Int × Int × Unit))) : TF Unit Empty Bool Unit :=
  (tIf () (tOr (tI iLt (tLen (Res.ok a0)) (Res.ok (1 : Int))) (tI iGt (tLen (Res.ok a0)) (Res.ok (4 : Int))))
  (TF.abs ((Res.ok false).thn () fun a => .rt a))
  ((Res.ok ([] : List Int)).thn () fun v1 => 
  ((Res.ok a0).thn () fun xs => (tFor b_are_lines_l1 xs (v1, ())).bind fun v2 => 
  ((Res.ok true).thn () fun a => .rt a))))
def t_are_lines (a0 : (List (Int × Int × Unit))) : Res Bool := (b_are_lines a0).res
def b_foremost_l1 (a0 : (List (Int × Int × Unit))) (a1 : (List Int)) : (Int × Unit) → Int → TF (Int × Unit) (Int × Unit) Int Unit :=
  fun v2 v3 => (TF.bind (tIf () (tI iLt (tI iMul (tI iAdd (tIx (Res.ok a1) (Res.ok v3)) (Res.ok (1 : Int))) ((tIx (Res.ok a0) (Res.ok v2.1)).map (fun x : (Int × Int × Unit) => x.2.1))) (tI iMul (tI iAdd (tIx (Res.ok a1) (Res.ok v2.1)) (Res.ok (1 : Int))) ((tIx (Res.ok a0) (Res.ok v3)).map (fun x : (Int × Int × Unit) => x.2.1))))
  ((Res.ok v3).thn () fun v4 => 
  (.nx (v4, ())))
  (.nx (v2.1, ()))) fun v5 : (Int × Unit) => 
  (.nx (v5.1, ())))
def b_foremost (a0 : (List (Int × Int × Unit))) (a1 : (List Int)) : TF Unit Empty Int Unit :=
  ((Res.ok (0 : Int)).thn () fun v1 => 
  ((tR2 (Res.ok (1 : Int)) (tLen (Res.ok a0))).thn () fun xs => (tFor (b_foremost_l1 a0 a1) xs (v1, ())).bind fun v2 => 
  ((Res.ok v2.1).thn () fun a => .rt a)))
def t_foremost (a0 : (List (Int × Int × Unit))) (a1 : (List Int)) : Res Int := (b_foremost a0 a1).res
def b_grown_parts_l1 (a0 : (List (Int × Int × Unit))) : ((List Int) × (List (List Int)) × Unit) → Int → TF ((List Int) × (List (List Int)) × Unit) ((List Int) × (List (List Int)) × Unit) (List (List Int)) Unit :=
  fun v3 v4 => ((tAugI (fun i j => i + j) v3.1 ((tPair (Res.ok a0) (tPair (Res.ok v3.1) (Res.ok ()))).bind fun a => t_foremost a.1 a.2.1) (Res.ok (1 : Int))).thn () fun v5 => 
  ((tAppn v3.2.1 (Res.ok v5)).thn () fun v6 => 
  (.nx (v5, v6, ()))))
def b_grown_parts (a0 : (List (Int × Int × Unit))) (a1 : Int) : TF Unit Empty (List (List Int)) Unit :=
  ((tRep (tCons (Res.ok (0 : Int)) (Res.ok [])) (tLen (Res.ok a0))).thn () fun v1 => 
  ((tCons (Res.ok v1) (Res.ok [])).thn () fun v2 => 
  ((tR1 (Res.ok a1)).thn () fun xs => (tFor (b_grown_parts_l1 a0) xs (v1, v2, ())).bind fun v3 => 
  (.rt v3.2.1))))
def t_grown_parts (a0 : (List (Int × Int × Unit))) (a1 : Int) : Res (List (List Int)) := (b_grown_parts a0 a1).res
def b_is_by (a0 : Str) (a1 : Int) : TF Unit Empty Bool Unit :=
  (tIf () (tD dEq D.str D.str (Res.ok a0) (Res.ok ("share" : Str)))
  (TF.abs ((tAnd (tI iGe (Res.ok a1) (Res.ok (1 : Int))) (tI iLe (Res.ok a1) (Res.ok (100 : Int)))).thn () fun a => .rt a))
  ((tAnd (tD dEq D.str D.str (Res.ok a0) (Res.ok ("layer" : Str))) (tAnd (tI iGe (Res.ok a1) (Res.ok (0 : Int))) (tI iLe (Res.ok a1) (Res.ok (200 : Int))))).thn () fun a => .rt a))
def t_is_by (a0 : Str) (a1 : Int) : Res Bool := (b_is_by a0 a1).res
def b_is_cover_l1 (a0 : Int) (v1 : (Int × Str × Int × Int × (List (Int × Int × Unit)) × Unit)) : Unit → (Int × Int × Unit) → TF Unit Unit Bool Unit :=
  fun v2 v3 => (tIf () (tOr (tI iGe (Res.ok v3.1) (Res.ok a0)) (tD dEq D.int D.int (Res.ok v3.1) (Res.ok v1.1)))
  (TF.abs ((Res.ok false).thn () fun a => .rt a))
  (.nx ()))
def b_is_cover (a0 : Int) (a1 : (Int × Str × Int × Int × (List (Int × Int × Unit)) × Unit)) : TF Unit Empty Bool Unit :=
  (tIf () (tD dNe D.int D.int ((Res.ok a1).map fun _ => (5 : Int)) (Res.ok (5 : Int)))
  (TF.abs ((Res.ok false).thn () fun a => .rt a))
  ((Res.ok a1).thn () fun v1 => 
  (tIf () (tOr (tI iLt (Res.ok v1.1) (Res.ok (0 : Int))) (tOr (tI iGe (Res.ok v1.1) (Res.ok a0)) (tOr (tNot ((tPair (Res.ok v1.2.1) (tPair (Res.ok v1.2.2.1) (Res.ok ()))).bind fun a => t_is_by a.1 a.2.1)) (tOr (tI iLt (Res.ok v1.2.2.2.1) (Res.ok (0 : Int))) (tI iGt (Res.ok v1.2.2.2.1) (Res.ok (24 : Int)))))))
  (TF.abs ((Res.ok false).thn () fun a => .rt a))
  (tIf () (tNot ((tPair (Res.ok v1.2.2.2.2.1) (Res.ok ())).bind fun a => t_are_lines a.1))
  (TF.abs ((Res.ok false).thn () fun a => .rt a))
  ((Res.ok v1.2.2.2.2.1).thn () fun xs => (tFor (b_is_cover_l1 a0 v1) xs ()).bind fun v2 => 
  ((Res.ok true).thn () fun a => .rt a))))))
def t_is_cover (a0 : Int) (a1 : (Int × Str × Int × Int × (List (Int × Int × Unit)) × Unit)) : Res Bool := (b_is_cover a0 a1).res
def b_taken (a0 : Str) (a1 : Int) (a2 : Int) (a3 : Int) : TF Unit Empty Int Unit :=
  (tIf () (tD dEq D.str D.str (Res.ok a0) (Res.ok ("share" : Str)))
  (TF.abs ((tMin (Res.ok a2) (tI iDiv (tI iMul (Res.ok a3) (Res.ok a1)) (Res.ok (100 : Int)))).thn () fun a => .rt a))
  ((tMin (Res.ok a2) (tMax (Res.ok (0 : Int)) (tI iSub (Res.ok a3) (Res.ok a1)))).thn () fun a => .rt a))
def t_taken (a0 : Str) (a1 : Int) (a2 : Int) (a3 : Int) : Res Int := (b_taken a0 a1 a2 a3).res
def b_look_houses (a0 : Int) : TF Unit Unit Unit Unit :=
  (tIf () (tOr (tI iLt (Res.ok a0) (Res.ok (1 : Int))) (tI iGt (Res.ok a0) (Res.ok (6 : Int))))
  (TF.abs (.rs ⟨"BadHouses", none⟩ ()))
  (.nx ()))
def t_look_houses (a0 : Int) : Res Unit := (b_look_houses a0).resN
def b_Table___init___l1 (a1 : Int) : Unit → (Int × Str × Int × Int × (List (Int × Int × Unit)) × Unit) → TF Unit Unit Unit Unit :=
  fun v1 v2 => (tIf () (tNot ((tPair (Res.ok a1) (tPair (Res.ok v2) (Res.ok ()))).bind fun a => t_is_cover a.1 a.2.1))
  (TF.abs (.rs ⟨"BadCover", none⟩ ()))
  (.nx ()))
def b_Table___init___l2 : Unit → Int → TF Unit Unit Unit Unit :=
  fun v3 v4 => (tIf () (tOr (tI iLt (Res.ok v4) (Res.ok (0 : Int))) (tI iGt (Res.ok v4) (Res.ok (9999 : Int))))
  (TF.abs (.rs ⟨"BadLosses", none⟩ ()))
  (.nx ()))
def b_Table___init___c1 : (Int × Str × Int × Int × (List (Int × Int × Unit)) × Unit) → Res (List (List Int)) :=
  fun v8 => ((tPair ((Res.ok v8).map (fun x : (Int × Str × Int × Int × (List (Int × Int × Unit)) × Unit) => x.2.2.2.2.1)) (tPair ((Res.ok v8).map (fun x : (Int × Str × Int × Int × (List (Int × Int × Unit)) × Unit) => x.2.2.2.1)) (Res.ok ()))).bind fun a => t_grown_parts a.1 a.2.1)
def b_Table___init__ (a1 : Int) (a2 : (List (Int × Str × Int × Int × (List (Int × Int × Unit)) × Unit))) (a3 : (List Int)) : TF Unit YTable Unit Unit :=
  (((tPair (Res.ok a1) (Res.ok ())).bind fun a => t_look_houses a.1).thn () fun _ => 
  (tIf () (tI iGt (tLen (Res.ok a2)) (Res.ok (10 : Int)))
  (TF.abs (.rs ⟨"BadCover", none⟩ ()))
  ((Res.ok a2).thn () fun xs => (tFor (b_Table___init___l1 a1) xs ()).bind fun v1 => 
  (tIf () (tD dNe D.int D.int (tLen (Res.ok a3)) (Res.ok a1))
  (TF.abs (.rs ⟨"BadLosses", none⟩ ()))
  ((Res.ok a3).thn () fun xs => (tFor b_Table___init___l2 xs ()).bind fun v3 => 
  ((Res.ok a1).thn () fun v5 => 
  ((Res.ok a2).thn () fun v6 => 
  ((Res.ok a3).thn () fun v7 => 
  ((tLc (fun _ : (Int × Str × Int × Int × (List (Int × Int × Unit)) × Unit) => (Res.ok true)) b_Table___init___c1 (Res.ok a2)).thn () fun v9 => 
  (.nx (⟨v5, v6, v7, v9⟩ : YTable)))))))))))
def t_Table___init__ (a1 : Int) (a2 : (List (Int × Str × Int × Int × (List (Int × Int × Unit)) × Unit))) (a3 : (List Int)) : Res YTable := (b_Table___init__ a1 a2 a3).resI
def b_Table_mosts_c1 : (Int × Str × Int × Int × (List (Int × Int × Unit)) × Unit) → Res Int :=
  fun v1 => ((Res.ok v1).map (fun x : (Int × Str × Int × Int × (List (Int × Int × Unit)) × Unit) => x.2.2.2.1))
def b_Table_mosts (a0 : YTable) : TF Unit Empty (List Int) Unit :=
  ((tLc (fun _ : (Int × Str × Int × Int × (List (Int × Int × Unit)) × Unit) => (Res.ok true)) b_Table_mosts_c1 ((Res.ok a0).map fun x : YTable => x.rows)).thn () fun a => .rt a)
def t_Table_mosts (a0 : YTable) : Res (List Int) := (b_Table_mosts a0).res
def b_Table_loads_l1 (v4 : (List Int)) (v5 : (List (Int × Int × Unit))) : ((List Int) × Unit) → Int → TF ((List Int) × Unit) ((List Int) × Unit) (List Int) Unit :=
  fun v6 v7 => ((tAugI (fun i j => i + j) v6.1 ((tIx (Res.ok v5) (Res.ok v7)).map (fun x : (Int × Int × Unit) => x.1)) (tIx (Res.ok v4) (Res.ok v7))).thn () fun v8 => 
  (.nx (v8, ())))
def b_Table_loads_l2 (a0 : YTable) (a1 : (List Int)) : ((List Int) × Unit) → Int → TF ((List Int) × Unit) ((List Int) × Unit) (List Int) Unit :=
  fun v2 v3 => ((tIx (tIx ((Res.ok a0).map fun x : YTable => x.splits) (Res.ok v3)) (tIx (Res.ok a1) (Res.ok v3))).thn () fun v4 => 
  (((tIx ((Res.ok a0).map fun x : YTable => x.rows) (Res.ok v3)).map (fun x : (Int × Str × Int × Int × (List (Int × Int × Unit)) × Unit) => x.2.2.2.2.1)).thn () fun v5 => 
  ((tR1 (tLen (Res.ok v5))).thn () fun xs => (tFor (b_Table_loads_l1 v4 v5) xs (v2.1, ())).bind fun v6 => 
  (.nx (v6.1, ())))))
def b_Table_loads (a0 : YTable) (a1 : (List Int)) : TF Unit Empty (List Int) Unit :=
  (((Res.ok a0).map fun x : YTable => x.befell).thn () fun v1 => 
  ((tR1 (tLen ((Res.ok a0).map fun x : YTable => x.rows))).thn () fun xs => (tFor (b_Table_loads_l2 a0 a1) xs (v1, ())).bind fun v2 => 
  (.rt v2.1)))
def t_Table_loads (a0 : YTable) (a1 : (List Int)) : Res (List Int) := (b_Table_loads a0 a1).res
def b_Table_passed_l1 : ((List Int) × (List Int) × Unit) → (Int × Str × Int × Int × (List (Int × Int × Unit)) × Unit) → TF ((List Int) × (List Int) × Unit) ((List Int) × (List Int) × Unit) ((List Int) × (List Int) × Unit) Unit :=
  fun v3 v4 => (((tPair (Res.ok v4.2.1) (tPair (Res.ok v4.2.2.1) (tPair (Res.ok v4.2.2.2.1) (tPair (tIx (Res.ok v3.1) (Res.ok v4.1)) (Res.ok ()))))).bind fun a => t_taken a.1 a.2.1 a.2.2.1 a.2.2.2.1).thn () fun v5 => 
  ((tAugI (fun i j => i - j) v3.1 (Res.ok v4.1) (Res.ok v5)).thn () fun v6 => 
  ((tAppn v3.2.1 (Res.ok v5)).thn () fun v7 => 
  (.nx (v6, v7, ())))))
def b_Table_passed (a0 : YTable) (a1 : (List Int)) : TF Unit Empty ((List Int) × (List Int) × Unit) Unit :=
  (((Res.ok a0).bind fun o => (tPair (Res.ok a1) (Res.ok ())).bind fun a => t_Table_loads o a.1).thn () fun v1 => 
  ((Res.ok ([] : List Int)).thn () fun v2 => 
  (((Res.ok a0).map fun x : YTable => x.rows).thn () fun xs => (tFor b_Table_passed_l1 xs (v1, v2, ())).bind fun v3 => 
  ((tPair (Res.ok v3.2.1) (tPair (Res.ok v3.1) (Res.ok ()))).thn () fun a => .rt a))))
def t_Table_passed (a0 : YTable) (a1 : (List Int)) : Res ((List Int) × (List Int) × Unit) := (b_Table_passed a0 a1).res
def b_look_account_l1 (a1 : (List Int)) (v1 : (List Int)) : Unit → Int → TF Unit Unit Unit Unit :=
  fun v2 v3 => (tIf () (tOr (tI iLt (tIx (Res.ok a1) (Res.ok v3)) (Res.ok (0 : Int))) (tI iGt (tIx (Res.ok a1) (Res.ok v3)) (tIx (Res.ok v1) (Res.ok v3))))
  (TF.abs (.rs ⟨"BadAccount", none⟩ ()))
  (.nx ()))
def b_look_account (a0 : YTable) (a1 : (List Int)) : TF Unit Unit Unit Unit :=
  (((Res.ok a0).bind fun o => (Res.ok ()).bind fun a => t_Table_mosts o ).thn () fun v1 => 
  (tIf () (tD dNe D.int D.int (tLen (Res.ok a1)) (tLen (Res.ok v1)))
  (TF.abs (.rs ⟨"BadAccount", none⟩ ()))
  ((tR1 (tLen (Res.ok v1))).thn () fun xs => (tFor (b_look_account_l1 a1 v1) xs ()).bind fun v2 => 
  (.nx ()))))
def t_look_account (a0 : YTable) (a1 : (List Int)) : Res Unit := (b_look_account a0 a1).resN
def b_burdens (a0 : YTable) (a1 : (List Int)) : TF Unit Empty (List Int) Unit :=
  (((tPair (Res.ok a0) (tPair (Res.ok a1) (Res.ok ()))).bind fun a => t_look_account a.1 a.2.1).thn () fun _ => 
  (((Res.ok a0).bind fun o => (tPair (Res.ok a1) (Res.ok ())).bind fun a => t_Table_loads o a.1).thn () fun a => .rt a))
def t_burdens (a0 : YTable) (a1 : (List Int)) : Res (List Int) := (b_burdens a0 a1).res
def b_asked (a0 : YTable) (a1 : (List Int)) : TF Unit Empty (List Int) Unit :=
  (((tPair (Res.ok a0) (tPair (Res.ok a1) (Res.ok ()))).bind fun a => t_look_account a.1 a.2.1).thn () fun _ => 
  ((((Res.ok a0).bind fun o => (tPair (Res.ok a1) (Res.ok ())).bind fun a => t_Table_passed o a.1).map (fun x : ((List Int) × (List Int) × Unit) => x.1)).thn () fun a => .rt a))
def t_asked (a0 : YTable) (a1 : (List Int)) : Res (List Int) := (b_asked a0 a1).res
def b_settled_t1 : ((List Int) × (List Int) × Unit) → Res Bool :=
  fun v3 => (tD dNe (eL D.int) (eL D.int) (Res.ok v3.2.1) (Res.ok v3.1))
def b_settled_l1 (a0 : YTable) : ((List Int) × (List Int) × Unit) → TF ((List Int) × (List Int) × Unit) ((List Int) × (List Int) × Unit) (List Int) Unit :=
  fun v3 => ((Res.ok v3.2.1).thn () fun v4 => 
  ((((Res.ok a0).bind fun o => (tPair (Res.ok v4) (Res.ok ())).bind fun a => t_Table_passed o a.1).map (fun x : ((List Int) × (List Int) × Unit) => x.1)).thn () fun v5 => 
  (.nx (v4, v5, ()))))
def b_settled (a0 : YTable) (a1 : (List Int)) : TF Unit Empty (List Int) Unit :=
  ((Res.ok a1).thn () fun v1 => 
  ((((Res.ok a0).bind fun o => (tPair (Res.ok v1) (Res.ok ())).bind fun a => t_Table_passed o a.1).map (fun x : ((List Int) × (List Int) × Unit) => x.1)).thn () fun v2 => 
  ((tWh b_settled_t1 (b_settled_l1 a0) 1000 (v1, v2, ())).bind fun v3 => 
  ((Res.ok v3.1).thn () fun a => .rt a))))
def t_settled (a0 : YTable) (a1 : (List Int)) : Res (List Int) := (b_settled a0 a1).res
def b_shows_l1 (a0 : YTable) : ((List Int) × Unit) → (Int × Int × Unit) → TF ((List Int) × Unit) ((List Int) × Unit) Bool Unit :=
  fun v2 v3 => (tIf () (tOr (tI iLt (Res.ok v3.1) (Res.ok (0 : Int))) (tOr (tI iGe (Res.ok v3.1) (tLen (Res.ok v2.1))) (tI iLe (Res.ok v3.2.1) (tIx (Res.ok v2.1) (Res.ok v3.1)))))
  (TF.abs ((Res.ok false).thn () fun a => .rt a))
  (tIf () (tI iGt (Res.ok v3.2.1) (tIx (((Res.ok a0).bind fun o => (tPair (Res.ok v2.1) (Res.ok ())).bind fun a => t_Table_passed o a.1).map (fun x : ((List Int) × (List Int) × Unit) => x.1)) (Res.ok v3.1)))
  (TF.abs ((Res.ok false).thn () fun a => .rt a))
  ((tItm v2.1 (Res.ok v3.1) (Res.ok v3.2.1)).thn () fun v4 => 
  (.nx (v4, ())))))
def b_shows (a0 : YTable) (a1 : (List (Int × Int × Unit))) (a2 : (List Int)) : TF Unit Empty Bool Unit :=
  (((tPair (Res.ok a0) (tPair (Res.ok a2) (Res.ok ()))).bind fun a => t_look_account a.1 a.2.1).thn () fun _ => 
  ((tRep (tCons (Res.ok (0 : Int)) (Res.ok [])) (tLen ((Res.ok a0).bind fun o => (Res.ok ()).bind fun a => t_Table_mosts o ))).thn () fun v1 => 
  ((Res.ok a1).thn () fun xs => (tFor (b_shows_l1 a0) xs (v1, ())).bind fun v2 => 
  ((tD dEq (eL D.int) (eL D.int) (Res.ok v2.1) (Res.ok a2)).thn () fun a => .rt a))))
def t_shows (a0 : YTable) (a1 : (List (Int × Int × Unit))) (a2 : (List Int)) : Res Bool := (b_shows a0 a1 a2).res
def b_agrees (a0 : YTable) (a1 : (List Int)) : TF Unit Empty Bool Unit :=
  ((tD dEq (eL D.int) (eL D.int) ((tPair (Res.ok a0) (tPair (Res.ok a1) (Res.ok ()))).bind fun a => t_asked a.1 a.2.1) (Res.ok a1)).thn () fun a => .rt a)
def t_agrees (a0 : YTable) (a1 : (List Int)) : Res Bool := (b_agrees a0 a1).res
def b_lies_below_l1 (a0 : (List Int)) (a1 : (List Int)) : Unit → Int → TF Unit Unit Bool Unit :=
  fun v1 v2 => (tIf () (tI iGt (tIx (Res.ok a0) (Res.ok v2)) (tIx (Res.ok a1) (Res.ok v2)))
  (TF.abs ((Res.ok false).thn () fun a => .rt a))
  (.nx ()))
def b_lies_below (a0 : (List Int)) (a1 : (List Int)) : TF Unit Empty Bool Unit :=
  ((tR1 (tLen (Res.ok a0))).thn () fun xs => (tFor (b_lies_below_l1 a0 a1) xs ()).bind fun v1 => 
  ((Res.ok true).thn () fun a => .rt a))
def t_lies_below (a0 : (List Int)) (a1 : (List Int)) : Res Bool := (b_lies_below a0 a1).res
def b_backed (a0 : YTable) (a1 : (List Int)) : TF Unit Empty Bool Unit :=
  (((tPair (Res.ok a1) (tPair ((tPair (Res.ok a0) (tPair (Res.ok a1) (Res.ok ()))).bind fun a => t_asked a.1 a.2.1) (Res.ok ()))).bind fun a => t_lies_below a.1 a.2.1).thn () fun a => .rt a)
def t_backed (a0 : YTable) (a1 : (List Int)) : Res Bool := (b_backed a0 a1).res
def b_enough (a0 : YTable) (a1 : (List Int)) : TF Unit Empty Bool Unit :=
  (((tPair ((tPair (Res.ok a0) (tPair (Res.ok a1) (Res.ok ()))).bind fun a => t_asked a.1 a.2.1) (tPair (Res.ok a1) (Res.ok ()))).bind fun a => t_lies_below a.1 a.2.1).thn () fun a => .rt a)
def t_enough (a0 : YTable) (a1 : (List Int)) : Res Bool := (b_enough a0 a1).res
def b_above (a0 : YTable) (a1 : (List Int)) : TF Unit Empty (List Int) Unit :=
  (tIf () (tNot ((tPair (Res.ok a0) (tPair (Res.ok a1) (Res.ok ()))).bind fun a => t_backed a.1 a.2.1))
  (TF.abs (.rs ⟨"Unbacked", none⟩ ()))
  (((tPair (Res.ok a0) (tPair (Res.ok a1) (Res.ok ()))).bind fun a => t_settled a.1 a.2.1).thn () fun a => .rt a))
def t_above (a0 : YTable) (a1 : (List Int)) : Res (List Int) := (b_above a0 a1).res
def b_below (a0 : YTable) (a1 : (List Int)) : TF Unit Empty (List Int) Unit :=
  (tIf () (tNot ((tPair (Res.ok a0) (tPair (Res.ok a1) (Res.ok ()))).bind fun a => t_enough a.1 a.2.1))
  (TF.abs (.rs ⟨"Short", none⟩ ()))
  (((tPair (Res.ok a0) (tPair (Res.ok a1) (Res.ok ()))).bind fun a => t_settled a.1 a.2.1).thn () fun a => .rt a))
def t_below (a0 : YTable) (a1 : (List Int)) : Res (List Int) := (b_below a0 a1).res
def b_look_both (a0 : YTable) (a1 : (List Int)) (a2 : (List Int)) : TF Unit Unit Unit Unit :=
  ((tCons ((tPair (Res.ok a0) (tPair (Res.ok a1) (Res.ok ()))).bind fun a => t_agrees a.1 a.2.1) (tCons ((tPair (Res.ok a0) (tPair (Res.ok a2) (Res.ok ()))).bind fun a => t_agrees a.1 a.2.1) (Res.ok []))).thn () fun v1 => 
  (tIf () (tD dIn D.bl (eL D.bl) (Res.ok false) (Res.ok v1))
  (TF.abs (.rs ⟨"Disagrees", none⟩ ()))
  (.nx ())))
def t_look_both (a0 : YTable) (a1 : (List Int)) (a2 : (List Int)) : Res Unit := (b_look_both a0 a1 a2).resN
def b_joint_c1 (a1 : (List Int)) (a2 : (List Int)) : Int → Res Int :=
  fun v1 => (tMax (tIx (Res.ok a1) (Res.ok v1)) (tIx (Res.ok a2) (Res.ok v1)))
def b_joint (a0 : YTable) (a1 : (List Int)) (a2 : (List Int)) : TF Unit Empty (List Int) Unit :=
  (((tPair (Res.ok a0) (tPair (Res.ok a1) (tPair (Res.ok a2) (Res.ok ())))).bind fun a => t_look_both a.1 a.2.1 a.2.2.1).thn () fun _ => 
  (((tPair (Res.ok a0) (tPair (tLc (fun _ : Int => (Res.ok true)) (b_joint_c1 a1 a2) (tR1 (tLen (Res.ok a1)))) (Res.ok ()))).bind fun a => t_settled a.1 a.2.1).thn () fun a => .rt a))
def t_joint (a0 : YTable) (a1 : (List Int)) (a2 : (List Int)) : Res (List Int) := (b_joint a0 a1 a2).res
def b_meeting_c1 (a1 : (List Int)) (a2 : (List Int)) : Int → Res Int :=
  fun v1 => (tMin (tIx (Res.ok a1) (Res.ok v1)) (tIx (Res.ok a2) (Res.ok v1)))
def b_meeting (a0 : YTable) (a1 : (List Int)) (a2 : (List Int)) : TF Unit Empty (List Int) Unit :=
  (((tPair (Res.ok a0) (tPair (Res.ok a1) (tPair (Res.ok a2) (Res.ok ())))).bind fun a => t_look_both a.1 a.2.1 a.2.2.1).thn () fun _ => 
  (((tPair (Res.ok a0) (tPair (tLc (fun _ : Int => (Res.ok true)) (b_meeting_c1 a1 a2) (tR1 (tLen (Res.ok a1)))) (Res.ok ()))).bind fun a => t_settled a.1 a.2.1).thn () fun a => .rt a))
def t_meeting (a0 : YTable) (a1 : (List Int)) (a2 : (List Int)) : Res (List Int) := (b_meeting a0 a1 a2).res
def b_kept (a0 : YTable) (a1 : (List Int)) : TF Unit Empty (List Int) Unit :=
  (tIf () (tNot ((tPair (Res.ok a0) (tPair (Res.ok a1) (Res.ok ()))).bind fun a => t_agrees a.1 a.2.1))
  (TF.abs (.rs ⟨"Disagrees", none⟩ ()))
  ((((Res.ok a0).bind fun o => (tPair (Res.ok a1) (Res.ok ())).bind fun a => t_Table_passed o a.1).map (fun x : ((List Int) × (List Int) × Unit) => x.2.1)).thn () fun a => .rt a))
def t_kept (a0 : YTable) (a1 : (List Int)) : Res (List Int) := (b_kept a0 a1).res
def b_law_draws_l1 : ((List Int) × Int × Unit) → Int → TF ((List Int) × Int × Unit) ((List Int) × Int × Unit) (List Int) Unit :=
  fun v9 v10 => (TF.bind (tIf () (tI iGt (Res.ok v9.2.1) (Res.ok (0 : Int)))
  ((tAppn v9.1 (tI iMod (Res.ok v9.2.1) (Res.ok (997 : Int)))).thn () fun v11 => 
  ((tI iDiv (Res.ok v9.2.1) (Res.ok (997 : Int))).thn () fun v12 => 
  (.nx (v11, v12, ()))))
  (.nx (v9.1, v9.2.1, ()))) fun v13 : ((List Int) × Int × Unit) => 
  (.nx (v13.1, v13.2.1, ())))
def b_law_draws_l2 : ((List Int) × Int × Unit) → Int → TF ((List Int) × Int × Unit) ((List Int) × Int × Unit) (List Int) Unit :=
  fun v3 v4 => ((tI iMod (tI iAdd (tI iAdd (tI iMul (Res.ok v3.2.1) (Res.ok (40009 : Int))) (tI iMod (Res.ok v4) (Res.ok (1000033 : Int)))) (Res.ok (13 : Int))) (Res.ok (2147483629 : Int))).thn () fun v5 => 
  ((tI iSub (Res.ok v4) (tI iPow (Res.ok (10 : Int)) (Res.ok (18 : Int)))).thn () fun v6 => 
  (TF.bind (tIf () (tI iLt (Res.ok v6) (Res.ok (0 : Int)))
  ((tAppn v3.1 (tI iMod (Res.ok v4) (Res.ok (997 : Int)))).thn () fun v7 => 
  (.nx (v7, ())))
  (.nx (v3.1, ()))) fun v8 : ((List Int) × Unit) => 
  ((tR1 (Res.ok (60 : Int))).thn () fun xs => (tFor b_law_draws_l1 xs (v8.1, v6, ())).bind fun v9 => 
  (.nx (v9.1, v5, ()))))))
def b_law_draws_l3 : ((List Int) × Int × Unit) → Int → TF ((List Int) × Int × Unit) ((List Int) × Int × Unit) (List Int) Unit :=
  fun v14 v15 => ((tI iMod (tI iAdd (tI iAdd (tI iAdd (tI iMul (Res.ok v14.2.1) (Res.ok v14.2.1)) (tI iMul (Res.ok (69621 : Int)) (Res.ok v14.2.1))) (tI iMul (Res.ok (7 : Int)) (Res.ok v15))) (Res.ok (5 : Int))) (Res.ok (2147483629 : Int))).thn () fun v16 => 
  ((tAppn v14.1 (tI iMod (tI iDiv (Res.ok v16) (Res.ok (1031 : Int))) (Res.ok (997 : Int)))).thn () fun v17 => 
  (.nx (v17, v16, ()))))
def b_law_draws (a0 : (List Int)) (a1 : Int) : TF Unit Empty (List Int) Unit :=
  ((Res.ok ([] : List Int)).thn () fun v1 => 
  ((Res.ok (29 : Int)).thn () fun v2 => 
  ((tSl (Res.ok a0) (Res.ok none) ((Res.ok (63 : Int)).map some)).thn () fun xs => (tFor b_law_draws_l2 xs (v1, v2, ())).bind fun v3 => 
  ((tR1 (Res.ok a1)).thn () fun xs => (tFor b_law_draws_l3 xs (v3.1, v3.2.1, ())).bind fun v14 => 
  ((tSl (Res.ok v14.1) (Res.ok none) ((Res.ok a1).map some)).thn () fun a => .rt a)))))
def t_law_draws (a0 : (List Int)) (a1 : Int) : Res (List Int) := (b_law_draws a0 a1).res
def b_law_due_c1 (a0 : Str) : Str → Res Bool :=
  fun v4 => (tD dEq D.str D.str (Res.ok v4) (Res.ok a0))
def b_law_due (a0 : Str) : TF Unit Empty (List Bool) Unit :=
  ((tCons (Res.ok ("BadHouses" : Str)) (tCons (Res.ok ("BadLines" : Str)) (tCons (Res.ok ("BadCover" : Str)) (tCons (Res.ok ("BadCrowns" : Str)) (tCons (Res.ok ("BadLosses" : Str)) (tCons (Res.ok ("BadAccount" : Str)) (tCons (Res.ok ("Unbacked" : Str)) (tCons (Res.ok ("Short" : Str)) (Res.ok []))))))))).thn () fun v1 => 
  ((tCat (Res.ok v1) (tCons (Res.ok ("Disagrees" : Str)) (tCons (Res.ok ("NoHouse" : Str)) (tCons (Res.ok ("NoCover" : Str)) (tCons (Res.ok ("NoHappening" : Str)) (tCons (Res.ok ("NoLoss" : Str)) (tCons (Res.ok ("BadDay" : Str)) (tCons (Res.ok ("BadTerms" : Str)) (tCons (Res.ok ("Endless" : Str)) (Res.ok [])))))))))).thn () fun v2 => 
  ((tCat (Res.ok v2) (tCons (Res.ok ("Same" : Str)) (tCons (Res.ok ("Full" : Str)) (tCons (Res.ok ("BadDeed" : Str)) (tCons (Res.ok ("Nothing" : Str)) (tCons (Res.ok ("BadText" : Str)) (Res.ok []))))))).thn () fun v3 => 
  ((tCat (tCons (Res.ok true) (Res.ok [])) (tLc (fun _ : Str => (Res.ok true)) (b_law_due_c1 a0) (Res.ok v3))).thn () fun a => .rt a))))
def t_law_due (a0 : Str) : Res (List Bool) := (b_law_due a0).res
def b_law_lines_d1 (a1 : Int) : Int → Res Bool :=
  fun v2 => (tD dNe D.int D.int (Res.ok v2) (Res.ok a1))
def b_law_lines_c1 : Int → Res Int :=
  fun v2 => (Res.ok v2)
def b_law_lines_l1 (a2 : (List Int)) : ((List Int) × (List (Int × Int × Unit)) × Unit) → Int → TF ((List Int) × (List (Int × Int × Unit)) × Unit) ((List Int) × (List (Int × Int × Unit)) × Unit) (List (Int × Int × Unit)) Unit :=
  fun v5 v6 => (((tI iMod (tIx (Res.ok a2) (tI iAdd (Res.ok (1 : Int)) (Res.ok v6))) (tLen (Res.ok v5.1))).bind (tPopAt v5.1)).thn () fun v7 => 
  ((tI iAdd (Res.ok (1 : Int)) (tI iMod (tI iDiv (tIx (Res.ok a2) (tI iAdd (Res.ok (1 : Int)) (Res.ok v6))) (Res.ok (7 : Int))) (Res.ok (20 : Int)))).thn () fun v8 => 
  (TF.bind (tIf () (tD dEq D.int D.int (tI iMod (tI iDiv (tIx (Res.ok a2) (Res.ok (0 : Int))) (Res.ok (4 : Int))) (Res.ok (3 : Int))) (Res.ok (1 : Int)))
  ((tI iAdd (Res.ok (1 : Int)) (tI iMod (tI iDiv (tIx (Res.ok a2) (tI iAdd (Res.ok (1 : Int)) (Res.ok v6))) (Res.ok (7 : Int))) (Res.ok (3 : Int)))).thn () fun v9 => 
  (.nx (v9, ())))
  (.nx (v8, ()))) fun v10 : (Int × Unit) => 
  ((tAppn v5.2.1 (tPair (Res.ok v7.1) (tPair (Res.ok v10.1) (Res.ok ())))).thn () fun v11 => 
  (.nx (v7.2, v11, ()))))))
def b_law_lines (a0 : Int) (a1 : Int) (a2 : (List Int)) : TF Unit Empty (List (Int × Int × Unit)) Unit :=
  ((tLc (b_law_lines_d1 a1) b_law_lines_c1 (tR1 (Res.ok a0))).thn () fun v1 => 
  ((tI iAdd (Res.ok (1 : Int)) (tI iMod (tIx (Res.ok a2) (Res.ok (0 : Int))) (tMin (Res.ok (4 : Int)) (tLen (Res.ok v1))))).thn () fun v3 => 
  ((Res.ok ([] : List (Int × Int × Unit))).thn () fun v4 => 
  ((tR1 (Res.ok v3)).thn () fun xs => (tFor (b_law_lines_l1 a2) xs (v1, v4, ())).bind fun v5 => 
  ((Res.ok v5.2.1).thn () fun a => .rt a)))))
def t_law_lines (a0 : Int) (a1 : Int) (a2 : (List Int)) : Res (List (Int × Int × Unit)) := (b_law_lines a0 a1 a2).res
def b_law_cover (a0 : Int) (a1 : (List Int)) : TF Unit Empty (Int × Str × Int × Int × (List (Int × Int × Unit)) × Unit) Unit :=
  ((tI iMod (tIx (Res.ok a1) (Res.ok (0 : Int))) (Res.ok a0)).thn () fun v1 => 
  ((tIx (tCons (Res.ok ("share" : Str)) (tCons (Res.ok ("layer" : Str)) (Res.ok []))) (tI iMod (tIx (Res.ok a1) (Res.ok (1 : Int))) (Res.ok (2 : Int)))).thn () fun v2 => 
  ((tI iMod (tIx (Res.ok a1) (Res.ok (2 : Int))) (Res.ok (201 : Int))).thn () fun v3 => 
  (TF.bind (tIf () (tD dEq D.int D.int (tI iMod (tI iDiv (tIx (Res.ok a1) (Res.ok (1 : Int))) (Res.ok (2 : Int))) (Res.ok (3 : Int))) (Res.ok (1 : Int)))
  ((tI iMod (tIx (Res.ok a1) (Res.ok (2 : Int))) (Res.ok (9 : Int))).thn () fun v4 => 
  (.nx (v4, ())))
  (.nx (v3, ()))) fun v5 : (Int × Unit) => 
  (TF.bind (tIf () (tD dEq D.str D.str (Res.ok v2) (Res.ok ("share" : Str)))
  ((tIx (tCons (tI iAdd (Res.ok (1 : Int)) (tI iMod (tIx (Res.ok a1) (Res.ok (2 : Int))) (Res.ok (100 : Int)))) (tCons (Res.ok (100 : Int)) (tCons (tI iAdd (Res.ok (50 : Int)) (tI iMod (tIx (Res.ok a1) (Res.ok (2 : Int))) (Res.ok (50 : Int)))) (Res.ok [])))) (tI iMod (tI iDiv (tIx (Res.ok a1) (Res.ok (1 : Int))) (Res.ok (2 : Int))) (Res.ok (3 : Int)))).thn () fun v6 => 
  (.nx (v6, ())))
  (.nx (v5.1, ()))) fun v7 : (Int × Unit) => 
  ((tI iMod (tIx (Res.ok a1) (Res.ok (3 : Int))) (Res.ok (25 : Int))).thn () fun v8 => 
  ((tPair (Res.ok v1) (tPair (Res.ok v2) (tPair (Res.ok v7.1) (tPair (Res.ok v8) (tPair ((tPair (Res.ok a0) (tPair (Res.ok v1) (tPair (tSl (Res.ok a1) ((Res.ok (4 : Int)).map some) ((Res.ok (9 : Int)).map some)) (Res.ok ())))).bind fun a => t_law_lines a.1 a.2.1 a.2.2.1) (Res.ok ())))))).thn () fun a => .rt a)))))))
def t_law_cover (a0 : Int) (a1 : (List Int)) : Res (Int × Str × Int × Int × (List (Int × Int × Unit)) × Unit) := (b_law_cover a0 a1).res
def b_law_rows_c1 (a0 : Int) (a1 : (List Int)) : Int → Res (Int × Str × Int × Int × (List (Int × Int × Unit)) × Unit) :=
  fun v3 => ((tPair (Res.ok a0) (tPair (tSl (Res.ok a1) ((tI iAdd (Res.ok (1 : Int)) (tI iMul (Res.ok (9 : Int)) (Res.ok v3))).map some) ((tI iAdd (Res.ok (10 : Int)) (tI iMul (Res.ok (9 : Int)) (Res.ok v3))).map some)) (Res.ok ()))).bind fun a => t_law_cover a.1 a.2.1)
def b_law_rows_c2 (v2 : (List (Int × Str × Int × Int × (List (Int × Int × Unit)) × Unit))) : Int → Res (Int × Str × Int × Int × (List (Int × Int × Unit)) × Unit) :=
  fun v5 => (tIx (Res.ok v2) (tI iDiv (Res.ok v5) (Res.ok (2 : Int))))
def b_law_rows (a0 : Int) (a1 : (List Int)) : TF Unit Empty (List (Int × Str × Int × Int × (List (Int × Int × Unit)) × Unit)) Unit :=
  (tIf () (tD dEq D.int D.int (Res.ok a0) (Res.ok (1 : Int)))
  (TF.abs ((Res.ok ([] : List (Int × Str × Int × Int × (List (Int × Int × Unit)) × Unit))).thn () fun a => .rt a))
  ((tI iMod (tIx (Res.ok a1) (Res.ok (0 : Int))) (Res.ok (11 : Int))).thn () fun v1 => 
  ((tLc (fun _ : Int => (Res.ok true)) (b_law_rows_c1 a0 a1) (tR1 (Res.ok v1))).thn () fun v2 => 
  (TF.bind (tIf () (tD dEq D.int D.int (tI iMod (tI iDiv (tIx (Res.ok a1) (Res.ok (0 : Int))) (Res.ok (11 : Int))) (Res.ok (6 : Int))) (Res.ok (1 : Int)))
  ((tLc (fun _ : Int => (Res.ok true)) (b_law_rows_c2 v2) (tR1 (Res.ok v1))).thn () fun v4 => 
  (.nx (v4, ())))
  (.nx (v2, ()))) fun v6 : ((List (Int × Str × Int × Int × (List (Int × Int × Unit)) × Unit)) × Unit) => 
  ((Res.ok v6.1).thn () fun a => .rt a)))))
def t_law_rows (a0 : Int) (a1 : (List Int)) : Res (List (Int × Str × Int × Int × (List (Int × Int × Unit)) × Unit)) := (b_law_rows a0 a1).res
def b_law_losses_l1 (a1 : (List Int)) : ((List Int) × Unit) → Int → TF ((List Int) × Unit) ((List Int) × Unit) (List Int) Unit :=
  fun v2 v3 => ((tIx (Res.ok a1) (tI iAdd (Res.ok (1 : Int)) (Res.ok v3))).thn () fun v4 => 
  ((tAppn v2.1 (tIx (tCons (Res.ok (0 : Int)) (tCons (tI iMod (Res.ok v4) (Res.ok (12 : Int))) (tCons (tI iMod (Res.ok v4) (Res.ok (90 : Int))) (tCons (tI iMod (Res.ok v4) (Res.ok (300 : Int))) (tCons (tI iMod (tI iMul (Res.ok v4) (Res.ok (9 : Int))) (Res.ok (10000 : Int))) (Res.ok [])))))) (tI iMod (tI iAdd (tIx (Res.ok a1) (Res.ok (0 : Int))) (tI iDiv (Res.ok v4) (Res.ok (300 : Int)))) (Res.ok (5 : Int))))).thn () fun v5 => 
  (.nx (v5, ()))))
def b_law_losses (a0 : Int) (a1 : (List Int)) : TF Unit Empty (List Int) Unit :=
  ((Res.ok ([] : List Int)).thn () fun v1 => 
  ((tR1 (Res.ok a0)).thn () fun xs => (tFor (b_law_losses_l1 a1) xs (v1, ())).bind fun v2 => 
  (.rt v2.1)))
def t_law_losses (a0 : Int) (a1 : (List Int)) : Res (List Int) := (b_law_losses a0 a1).res
def b_law_made (a0 : (List Int)) : TF Unit Empty (Int × (List (Int × Str × Int × Int × (List (Int × Int × Unit)) × Unit)) × (List Int) × Unit) Unit :=
  ((tI iAdd (Res.ok (1 : Int)) (tI iMod (tI iAdd (tIx (Res.ok a0) (Res.ok (0 : Int))) (Res.ok (3 : Int))) (Res.ok (6 : Int)))).thn () fun v1 => 
  ((tPair (Res.ok v1) (tPair ((tPair (Res.ok v1) (tPair (tSl (Res.ok a0) ((Res.ok (8 : Int)).map some) ((Res.ok (99 : Int)).map some)) (Res.ok ()))).bind fun a => t_law_rows a.1 a.2.1) (tPair ((tPair (Res.ok v1) (tPair (tSl (Res.ok a0) ((Res.ok (1 : Int)).map some) ((Res.ok (8 : Int)).map some)) (Res.ok ()))).bind fun a => t_law_losses a.1 a.2.1) (Res.ok ())))).thn () fun a => .rt a))
def t_law_made (a0 : (List Int)) : Res (Int × (List (Int × Str × Int × Int × (List (Int × Int × Unit)) × Unit)) × (List Int) × Unit) := (b_law_made a0).res
def b_law_split_l1 (a0 : (List (Int × Int × Unit))) (v3 : ((List Int) × (List (List Int)) × Unit)) : (Int × Unit) → Int → TF (Int × Unit) (Int × Unit) (List (List Int)) Unit :=
  fun v6 v7 => ((tI iMul (tI iAdd (tIx (Res.ok v3.1) (Res.ok v7)) (Res.ok (1 : Int))) ((tIx (Res.ok a0) (Res.ok v6.1)).map (fun x : (Int × Int × Unit) => x.2.1))).thn () fun v8 => 
  (TF.bind (tIf () (tI iLt (Res.ok v8) (tI iMul (tI iAdd (tIx (Res.ok v3.1) (Res.ok v6.1)) (Res.ok (1 : Int))) ((tIx (Res.ok a0) (Res.ok v7)).map (fun x : (Int × Int × Unit) => x.2.1))))
  ((Res.ok v7).thn () fun v9 => 
  (.nx (v9, ())))
  (.nx (v6.1, ()))) fun v10 : (Int × Unit) => 
  (.nx (v10.1, ()))))
def b_law_split_l2 (a0 : (List (Int × Int × Unit))) : ((List Int) × (List (List Int)) × Unit) → Int → TF ((List Int) × (List (List Int)) × Unit) ((List Int) × (List (List Int)) × Unit) (List (List Int)) Unit :=
  fun v3 v4 => ((Res.ok (0 : Int)).thn () fun v5 => 
  ((tR1 (tLen (Res.ok a0))).thn () fun xs => (tFor (b_law_split_l1 a0 v3) xs (v5, ())).bind fun v6 => 
  ((tItm v3.1 (Res.ok v6.1) (tI iAdd (tIx (Res.ok v3.1) (Res.ok v6.1)) (Res.ok (1 : Int)))).thn () fun v11 => 
  ((tAppn v3.2.1 (Res.ok v11)).thn () fun v12 => 
  (.nx (v11, v12, ()))))))
def b_law_split (a0 : (List (Int × Int × Unit))) (a1 : Int) : TF Unit Empty (List (List Int)) Unit :=
  ((tRep (tCons (Res.ok (0 : Int)) (Res.ok [])) (tLen (Res.ok a0))).thn () fun v1 => 
  ((tCons (Res.ok v1) (Res.ok [])).thn () fun v2 => 
  ((tR1 (Res.ok a1)).thn () fun xs => (tFor (b_law_split_l2 a0) xs (v1, v2, ())).bind fun v3 => 
  (.rt v3.2.1))))
def t_law_split (a0 : (List (Int × Int × Unit))) (a1 : Int) : Res (List (List Int)) := (b_law_split a0 a1).res
def b_law_splits_c1 : (Int × Str × Int × Int × (List (Int × Int × Unit)) × Unit) → Res (List (List Int)) :=
  fun v1 => ((tPair ((Res.ok v1).map (fun x : (Int × Str × Int × Int × (List (Int × Int × Unit)) × Unit) => x.2.2.2.2.1)) (tPair ((Res.ok v1).map (fun x : (Int × Str × Int × Int × (List (Int × Int × Unit)) × Unit) => x.2.2.2.1)) (Res.ok ()))).bind fun a => t_law_split a.1 a.2.1)
def b_law_splits (a0 : (List (Int × Str × Int × Int × (List (Int × Int × Unit)) × Unit))) : TF Unit Empty (List (List (List Int))) Unit :=
  ((tLc (fun _ : (Int × Str × Int × Int × (List (Int × Int × Unit)) × Unit) => (Res.ok true)) b_law_splits_c1 (Res.ok a0)).thn () fun a => .rt a)
def t_law_splits (a0 : (List (Int × Str × Int × Int × (List (Int × Int × Unit)) × Unit))) : Res (List (List (List Int))) := (b_law_splits a0).res
def b_law_loads_l1 (v4 : (List (Int × Int × Unit))) (v5 : (List Int)) : ((List Int) × Unit) → Int → TF ((List Int) × Unit) ((List Int) × Unit) (List Int) Unit :=
  fun v6 v7 => (((tIx (Res.ok v4) (Res.ok v7)).map (fun x : (Int × Int × Unit) => x.1)).thn () fun v8 => 
  ((tItm v6.1 (Res.ok v8) (tI iAdd (tIx (Res.ok v6.1) (Res.ok v8)) (tIx (Res.ok v5) (Res.ok v7)))).thn () fun v9 => 
  (.nx (v9, ()))))
def b_law_loads_l2 (a0 : (List (Int × Str × Int × Int × (List (Int × Int × Unit)) × Unit))) (a2 : (List (List (List Int)))) (a3 : (List Int)) : ((List Int) × Unit) → Int → TF ((List Int) × Unit) ((List Int) × Unit) (List Int) Unit :=
  fun v2 v3 => (((tIx (Res.ok a0) (Res.ok v3)).map (fun x : (Int × Str × Int × Int × (List (Int × Int × Unit)) × Unit) => x.2.2.2.2.1)).thn () fun v4 => 
  ((tIx (tIx (Res.ok a2) (Res.ok v3)) (tIx (Res.ok a3) (Res.ok v3))).thn () fun v5 => 
  ((tR1 (tLen (Res.ok v4))).thn () fun xs => (tFor (b_law_loads_l1 v4 v5) xs (v2.1, ())).bind fun v6 => 
  (.nx (v6.1, ())))))
def b_law_loads (a0 : (List (Int × Str × Int × Int × (List (Int × Int × Unit)) × Unit))) (a1 : (List Int)) (a2 : (List (List (List Int)))) (a3 : (List Int)) : TF Unit Empty (List Int) Unit :=
  ((Res.ok a1).thn () fun v1 => 
  ((tR1 (tLen (Res.ok a0))).thn () fun xs => (tFor (b_law_loads_l2 a0 a2 a3) xs (v1, ())).bind fun v2 => 
  (.rt v2.1)))
def t_law_loads (a0 : (List (Int × Str × Int × Int × (List (Int × Int × Unit)) × Unit))) (a1 : (List Int)) (a2 : (List (List (List Int)))) (a3 : (List Int)) : Res (List Int) := (b_law_loads a0 a1 a2 a3).res
def b_law_take (a0 : Str) (a1 : Int) (a2 : Int) (a3 : Int) : TF Unit Empty Int Unit :=
  (tIf () (tD dEq D.str D.str (Res.ok a0) (Res.ok ("share" : Str)))
  (TF.abs ((tMin (Res.ok a2) (tI iDiv (tI iMul (Res.ok a3) (Res.ok a1)) (Res.ok (100 : Int)))).thn () fun a => .rt a))
  (tIf () (tI iLe (Res.ok a3) (Res.ok a1))
  (TF.abs ((Res.ok (0 : Int)).thn () fun a => .rt a))
  ((tMin (Res.ok a2) (tI iSub (Res.ok a3) (Res.ok a1))).thn () fun a => .rt a)))
def t_law_take (a0 : Str) (a1 : Int) (a2 : Int) (a3 : Int) : Res Int := (b_law_take a0 a1 a2 a3).res
def b_law_passed_l1 : ((List Int) × (List Int) × Unit) → (Int × Str × Int × Int × (List (Int × Int × Unit)) × Unit) → TF ((List Int) × (List Int) × Unit) ((List Int) × (List Int) × Unit) ((List Int) × (List Int) × Unit) Unit :=
  fun v3 v4 => (((tPair (Res.ok v4.2.1) (tPair (Res.ok v4.2.2.1) (tPair (Res.ok v4.2.2.2.1) (tPair (tIx (Res.ok v3.1) (Res.ok v4.1)) (Res.ok ()))))).bind fun a => t_law_take a.1 a.2.1 a.2.2.1 a.2.2.2.1).thn () fun v5 => 
  ((tItm v3.1 (Res.ok v4.1) (tI iSub (tIx (Res.ok v3.1) (Res.ok v4.1)) (Res.ok v5))).thn () fun v6 => 
  ((tAppn v3.2.1 (Res.ok v5)).thn () fun v7 => 
  (.nx (v6, v7, ())))))
def b_law_passed (a0 : (List (Int × Str × Int × Int × (List (Int × Int × Unit)) × Unit))) (a1 : (List Int)) (a2 : (List (List (List Int)))) (a3 : (List Int)) : TF Unit Empty ((List Int) × (List Int) × Unit) Unit :=
  (((tPair (Res.ok a0) (tPair (Res.ok a1) (tPair (Res.ok a2) (tPair (Res.ok a3) (Res.ok ()))))).bind fun a => t_law_loads a.1 a.2.1 a.2.2.1 a.2.2.2.1).thn () fun v1 => 
  ((Res.ok ([] : List Int)).thn () fun v2 => 
  ((Res.ok a0).thn () fun xs => (tFor b_law_passed_l1 xs (v1, v2, ())).bind fun v3 => 
  ((tPair (Res.ok v3.2.1) (tPair (Res.ok v3.1) (Res.ok ()))).thn () fun a => .rt a))))
def t_law_passed (a0 : (List (Int × Str × Int × Int × (List (Int × Int × Unit)) × Unit))) (a1 : (List Int)) (a2 : (List (List (List Int)))) (a3 : (List Int)) : Res ((List Int) × (List Int) × Unit) := (b_law_passed a0 a1 a2 a3).res
def b_law_come_l1 (a0 : (List (Int × Str × Int × Int × (List (Int × Int × Unit)) × Unit))) (a1 : (List Int)) (a2 : (List (List (List Int)))) : ((List Int) × (List Int) × Unit) → Int → TF ((List Int) × (List Int) × Unit) ((List Int) × (List Int) × Unit) (List Int) Unit :=
  fun v3 v4 => (TF.bind (tIf () (tD dNe (eL D.int) (eL D.int) (Res.ok v3.2.1) (Res.ok v3.1))
  ((Res.ok v3.2.1).thn () fun v5 => 
  ((((tPair (Res.ok a0) (tPair (Res.ok a1) (tPair (Res.ok a2) (tPair (Res.ok v5) (Res.ok ()))))).bind fun a => t_law_passed a.1 a.2.1 a.2.2.1 a.2.2.2.1).map (fun x : ((List Int) × (List Int) × Unit) => x.1)).thn () fun v6 => 
  (.nx (v5, v6, ()))))
  (.nx (v3.1, v3.2.1, ()))) fun v7 : ((List Int) × (List Int) × Unit) => 
  (.nx (v7.1, v7.2.1, ())))
def b_law_come (a0 : (List (Int × Str × Int × Int × (List (Int × Int × Unit)) × Unit))) (a1 : (List Int)) (a2 : (List (List (List Int)))) (a3 : (List Int)) : TF Unit Empty (List Int) Unit :=
  ((Res.ok a3).thn () fun v1 => 
  ((((tPair (Res.ok a0) (tPair (Res.ok a1) (tPair (Res.ok a2) (tPair (Res.ok v1) (Res.ok ()))))).bind fun a => t_law_passed a.1 a.2.1 a.2.2.1 a.2.2.2.1).map (fun x : ((List Int) × (List Int) × Unit) => x.1)).thn () fun v2 => 
  ((tR1 (Res.ok (241 : Int))).thn () fun xs => (tFor (b_law_come_l1 a0 a1 a2) xs (v1, v2, ())).bind fun v3 => 
  ((Res.ok v3.1).thn () fun a => .rt a))))
def t_law_come (a0 : (List (Int × Str × Int × Int × (List (Int × Int × Unit)) × Unit))) (a1 : (List Int)) (a2 : (List (List (List Int)))) (a3 : (List Int)) : Res (List Int) := (b_law_come a0 a1 a2 a3).res
def b_law_below_l1 (a0 : (List Int)) (a1 : (List Int)) : Unit → Int → TF Unit Unit Bool Unit :=
  fun v1 v2 => (tIf () (tI iGt (tIx (Res.ok a0) (Res.ok v2)) (tIx (Res.ok a1) (Res.ok v2)))
  (TF.abs ((Res.ok false).thn () fun a => .rt a))
  (.nx ()))
def b_law_below (a0 : (List Int)) (a1 : (List Int)) : TF Unit Empty Bool Unit :=
  ((tR1 (tLen (Res.ok a0))).thn () fun xs => (tFor (b_law_below_l1 a0 a1) xs ()).bind fun v1 => 
  ((Res.ok true).thn () fun a => .rt a))
def t_law_below (a0 : (List Int)) (a1 : (List Int)) : Res Bool := (b_law_below a0 a1).res
def b_law_account_c1 (a0 : (List (Int × Str × Int × Int × (List (Int × Int × Unit)) × Unit))) (a1 : (List Int)) : Int → Res Int :=
  fun v1 => (tI iMod (tIx (Res.ok a1) (Res.ok v1)) (tI iAdd ((tIx (Res.ok a0) (Res.ok v1)).map (fun x : (Int × Str × Int × Int × (List (Int × Int × Unit)) × Unit) => x.2.2.2.1)) (Res.ok (1 : Int))))
def b_law_account (a0 : (List (Int × Str × Int × Int × (List (Int × Int × Unit)) × Unit))) (a1 : (List Int)) : TF Unit Empty (List Int) Unit :=
  ((tLc (fun _ : Int => (Res.ok true)) (b_law_account_c1 a0 a1) (tR1 (tLen (Res.ok a0)))).thn () fun a => .rt a)
def t_law_account (a0 : (List (Int × Str × Int × Int × (List (Int × Int × Unit)) × Unit))) (a1 : (List Int)) : Res (List Int) := (b_law_account a0 a1).res
def b_law_least (a0 : (List (Int × Str × Int × Int × (List (Int × Int × Unit)) × Unit))) (a1 : (List Int)) (a2 : (List (List (List Int)))) : TF Unit Empty (List Int) Unit :=
  (((tPair (Res.ok a0) (tPair (Res.ok a1) (tPair (Res.ok a2) (tPair (tRep (tCons (Res.ok (0 : Int)) (Res.ok [])) (tLen (Res.ok a0))) (Res.ok ()))))).bind fun a => t_law_come a.1 a.2.1 a.2.2.1 a.2.2.2.1).thn () fun a => .rt a)
def t_law_least (a0 : (List (Int × Str × Int × Int × (List (Int × Int × Unit)) × Unit))) (a1 : (List Int)) (a2 : (List (List (List Int)))) : Res (List Int) := (b_law_least a0 a1 a2).res
def b_law_door (a0 : Int) (a1 : YTable) (a2 : (List Int)) (a3 : (List Int)) : TF Unit Empty (List Bool) Unit :=
  ((Res.ok ([] : List Bool)).thn () fun v1 => 
  (TF.bind (tTry ring_ seenB_ ((TF.bind (tIf () (tD dEq D.int D.int (Res.ok a0) (Res.ok (0 : Int)))
  (((tPair (Res.ok a1) (tPair (Res.ok a2) (Res.ok ()))).bind fun a => t_burdens a.1 a.2.1).thn () fun _ => 
  (.nx ()))
  (TF.bind (tIf () (tD dEq D.int D.int (Res.ok a0) (Res.ok (1 : Int)))
  (((tPair (Res.ok a1) (tPair (Res.ok a2) (Res.ok ()))).bind fun a => t_asked a.1 a.2.1).thn () fun _ => 
  (.nx ()))
  (TF.bind (tIf () (tD dEq D.int D.int (Res.ok a0) (Res.ok (2 : Int)))
  (((tPair (Res.ok a1) (tPair (Res.ok a2) (Res.ok ()))).bind fun a => t_agrees a.1 a.2.1).thn () fun _ => 
  (.nx ()))
  (TF.bind (tIf () (tD dEq D.int D.int (Res.ok a0) (Res.ok (3 : Int)))
  (((tPair (Res.ok a1) (tPair (Res.ok a2) (Res.ok ()))).bind fun a => t_backed a.1 a.2.1).thn () fun _ => 
  (.nx ()))
  (TF.bind (tIf () (tD dEq D.int D.int (Res.ok a0) (Res.ok (4 : Int)))
  (((tPair (Res.ok a1) (tPair (Res.ok a2) (Res.ok ()))).bind fun a => t_enough a.1 a.2.1).thn () fun _ => 
  (.nx ()))
  (TF.bind (tIf () (tD dEq D.int D.int (Res.ok a0) (Res.ok (5 : Int)))
  (((tPair (Res.ok a1) (tPair (Res.ok a2) (Res.ok ()))).bind fun a => t_kept a.1 a.2.1).thn () fun _ => 
  (.nx ()))
  (TF.bind (tIf () (tD dEq D.int D.int (Res.ok a0) (Res.ok (6 : Int)))
  (((tPair (Res.ok a1) (tPair (Res.ok ([] : List (Int × Int × Unit))) (tPair (Res.ok a2) (Res.ok ())))).bind fun a => t_shows a.1 a.2.1 a.2.2.1).thn () fun _ => 
  (.nx ()))
  (TF.bind (tIf () (tD dEq D.int D.int (Res.ok a0) (Res.ok (7 : Int)))
  (((tPair (Res.ok a1) (tPair (Res.ok a2) (Res.ok ()))).bind fun a => t_above a.1 a.2.1).thn () fun _ => 
  (.nx ()))
  (TF.bind (tIf () (tD dEq D.int D.int (Res.ok a0) (Res.ok (8 : Int)))
  (((tPair (Res.ok a1) (tPair (Res.ok a2) (Res.ok ()))).bind fun a => t_below a.1 a.2.1).thn () fun _ => 
  (.nx ()))
  (TF.bind (tIf () (tD dEq D.int D.int (Res.ok a0) (Res.ok (9 : Int)))
  (((tPair (Res.ok a1) (tPair (Res.ok a2) (tPair (Res.ok a3) (Res.ok ())))).bind fun a => t_joint a.1 a.2.1 a.2.2.1).thn () fun _ => 
  (.nx ()))
  (((tPair (Res.ok a1) (tPair (Res.ok a2) (tPair (Res.ok a3) (Res.ok ())))).bind fun a => t_meeting a.1 a.2.1 a.2.2.1).thn () fun _ => 
  (.nx ()))) fun v2 : Unit => 
  (.nx ()))) fun v3 : Unit => 
  (.nx ()))) fun v4 : Unit => 
  (.nx ()))) fun v5 : Unit => 
  (.nx ()))) fun v6 : Unit => 
  (.nx ()))) fun v7 : Unit => 
  (.nx ()))) fun v8 : Unit => 
  (.nx ()))) fun v9 : Unit => 
  (.nx ()))) fun v10 : Unit => 
  (.nx ()))) fun v11 : Unit => 
  (.nx (v1, ()))) : TF _ ((List Bool) × Unit) _ Unit) (fun (_ : Unit) (v12 : List Bool) => (v12, ()))) fun v13 : ((List Bool) × Unit) => 
  ((Res.ok v13.1).thn () fun a => .rt a)))
def t_law_door (a0 : Int) (a1 : YTable) (a2 : (List Int)) (a3 : (List Int)) : Res (List Bool) := (b_law_door a0 a1 a2 a3).res
def b_law_spoilt (a0 : (List Int)) (a1 : (List Int)) (a2 : (List Int)) : TF Unit Empty (List Int) Unit :=
  ((tI iMod (tIx (Res.ok a2) (Res.ok (0 : Int))) (Res.ok (6 : Int))).thn () fun v1 => 
  (tIf () (tD dEq D.int D.int (tLen (Res.ok a0)) (Res.ok (0 : Int)))
  (TF.abs ((tCons (tIx (Res.ok a2) (Res.ok (1 : Int))) (Res.ok [])).thn () fun a => .rt a))
  ((tI iMod (tIx (Res.ok a2) (Res.ok (1 : Int))) (tLen (Res.ok a0))).thn () fun v2 => 
  (tIf () (tD dEq D.int D.int (Res.ok v1) (Res.ok (1 : Int)))
  (TF.abs ((tCat (tCat (tSl (Res.ok a0) (Res.ok none) ((Res.ok v2).map some)) (tCons (tI iSub ((Res.ok (1 : Int)).map fun a => -a) (tI iMod (tIx (Res.ok a2) (Res.ok (2 : Int))) (Res.ok (3 : Int)))) (Res.ok []))) (tSl (Res.ok a0) ((tI iAdd (Res.ok v2) (Res.ok (1 : Int))).map some) (Res.ok none))).thn () fun a => .rt a))
  (tIf () (tD dEq D.int D.int (Res.ok v1) (Res.ok (2 : Int)))
  (TF.abs ((tI iAdd (tI iAdd (tIx (Res.ok a1) (Res.ok v2)) (Res.ok (1 : Int))) (tI iMod (tIx (Res.ok a2) (Res.ok (2 : Int))) (Res.ok (3 : Int)))).thn () fun v3 => 
  ((tCat (tCat (tSl (Res.ok a0) (Res.ok none) ((Res.ok v2).map some)) (tCons (Res.ok v3) (Res.ok []))) (tSl (Res.ok a0) ((tI iAdd (Res.ok v2) (Res.ok (1 : Int))).map some) (Res.ok none))).thn () fun a => .rt a)))
  (tIf () (tD dEq D.int D.int (Res.ok v1) (Res.ok (3 : Int)))
  (TF.abs ((tCat (tCat (tSl (Res.ok a0) (Res.ok none) ((Res.ok v2).map some)) (tCons (Res.ok (0 : Int)) (Res.ok []))) (tSl (Res.ok a0) ((Res.ok v2).map some) (Res.ok none))).thn () fun a => .rt a))
  (tIf () (tD dEq D.int D.int (Res.ok v1) (Res.ok (4 : Int)))
  (TF.abs ((tCat (tSl (Res.ok a0) (Res.ok none) ((Res.ok v2).map some)) (tSl (Res.ok a0) ((tI iAdd (Res.ok v2) (Res.ok (1 : Int))).map some) (Res.ok none))).thn () fun a => .rt a))
  (tIf () (tD dEq D.int D.int (Res.ok v1) (Res.ok (5 : Int)))
  (TF.abs ((tCat (tCat (tSl (Res.ok a0) (Res.ok none) ((Res.ok v2).map some)) (tCons (tI iPow (Res.ok (10 : Int)) (Res.ok (20 : Int))) (Res.ok []))) (tSl (Res.ok a0) ((tI iAdd (Res.ok v2) (Res.ok (1 : Int))).map some) (Res.ok none))).thn () fun a => .rt a))
  ((Res.ok a0).thn () fun a => .rt a)))))))))
def t_law_spoilt (a0 : (List Int)) (a1 : (List Int)) (a2 : (List Int)) : Res (List Int) := (b_law_spoilt a0 a1 a2).res
def b_law_c1 : (Int × Str × Int × Int × (List (Int × Int × Unit)) × Unit) → Res Int :=
  fun v5 => ((Res.ok v5).map (fun x : (Int × Str × Int × Int × (List (Int × Int × Unit)) × Unit) => x.2.2.2.1))
def b_law_l1 (v3 : YTable) (v6 : (List Int)) (v7 : (List Int)) (v9 : (List Int)) (v13 : ((List Bool) × Unit)) : Unit → Int → TF Unit Unit Bool Unit :=
  fun v14 v15 => (((tPair (Res.ok v15) (tPair (Res.ok v3) (tPair (Res.ok v9) (tPair (Res.ok v6) (Res.ok ()))))).bind fun a => t_law_door a.1 a.2.1 a.2.2.1 a.2.2.2.1).thn () fun v16 => 
  (((tPair (Res.ok v15) (tPair (Res.ok v3) (tPair (Res.ok v6) (tPair (Res.ok v9) (Res.ok ()))))).bind fun a => t_law_door a.1 a.2.1 a.2.2.1 a.2.2.2.1).thn () fun v17 => 
  (((tPair (Res.ok v15) (tPair (Res.ok v3) (tPair (Res.ok v9) (tPair (Res.ok v9) (Res.ok ()))))).bind fun a => t_law_door a.1 a.2.1 a.2.2.1 a.2.2.2.1).thn () fun v18 => 
  (((tPair (Res.ok v15) (tPair (Res.ok v3) (tPair (Res.ok v7) (tPair (Res.ok v9) (Res.ok ()))))).bind fun a => t_law_door a.1 a.2.1 a.2.2.1 a.2.2.2.1).thn () fun v19 => 
  (tIf () (tAnd (tD dEq (eL D.bl) (eL D.bl) (Res.ok v13.1) (Res.ok ([] : List Bool))) (tAnd (tD dIn D.int (eS D.int) (Res.ok v15) (tCons (Res.ok (0 : Int)) (tCons (Res.ok (1 : Int)) (tCons (Res.ok (2 : Int)) (tCons (Res.ok (3 : Int)) (tCons (Res.ok (4 : Int)) (tCons (Res.ok (6 : Int)) (Res.ok [])))))))) (tD dNe (eL D.bl) (eL D.bl) (Res.ok v16) (Res.ok ([] : List Bool)))))
  (TF.abs ((Res.ok false).thn () fun a => .rt a))
  (tIf () (tAnd (tD dNe (eL D.bl) (eL D.bl) (Res.ok v13.1) (Res.ok ([] : List Bool))) (tOr (tD dNe (eL D.bl) (eL D.bl) (Res.ok v16) (Res.ok v13.1)) (tD dNe (eL D.bl) (eL D.bl) (Res.ok v18) (Res.ok v13.1))))
  (TF.abs ((Res.ok false).thn () fun a => .rt a))
  (tIf () (tAnd (tD dNe (eL D.bl) (eL D.bl) (Res.ok v13.1) (Res.ok ([] : List Bool))) (tAnd (tI iGt (Res.ok v15) (Res.ok (8 : Int))) (tOr (tD dNe (eL D.bl) (eL D.bl) (Res.ok v17) (Res.ok v13.1)) (tD dNe (eL D.bl) (eL D.bl) (Res.ok v19) (Res.ok v13.1)))))
  (TF.abs ((Res.ok false).thn () fun a => .rt a))
  (tIf () (tD dNe (eL D.bl) (eL D.bl) ((tPair (Res.ok v15) (tPair (Res.ok v3) (tPair (Res.ok v6) (tPair (Res.ok v6) (Res.ok ()))))).bind fun a => t_law_door a.1 a.2.1 a.2.2.1 a.2.2.2.1) (Res.ok ([] : List Bool)))
  (TF.abs ((Res.ok false).thn () fun a => .rt a))
  (.nx ())))))))))
def b_law (a0 : (List Int)) : TF Unit Empty Bool Unit :=
  (((tPair (Res.ok a0) (tPair (Res.ok (130 : Int)) (Res.ok ()))).bind fun a => t_law_draws a.1 a.2.1).thn () fun v1 => 
  (((tPair (Res.ok v1) (Res.ok ())).bind fun a => t_law_made a.1).thn () fun v2 => 
  (((tPair (Res.ok v2.1) (tPair (Res.ok v2.2.1) (tPair (Res.ok v2.2.2.1) (Res.ok ())))).bind fun a => t_Table___init__ a.1 a.2.1 a.2.2.1).thn () fun v3 => 
  ((tLc (fun _ : (Int × Str × Int × Int × (List (Int × Int × Unit)) × Unit) => (Res.ok true)) b_law_c1 (Res.ok v2.2.1)).thn () fun v4 => 
  (((tPair (Res.ok v2.2.1) (tPair (Res.ok v2.2.2.1) (tPair ((tPair (Res.ok v2.2.1) (Res.ok ())).bind fun a => t_law_splits a.1) (Res.ok ())))).bind fun a => t_law_least a.1 a.2.1 a.2.2.1).thn () fun v6 => 
  (((tPair (Res.ok v2.2.1) (tPair (tSl (Res.ok v1) ((Res.ok (113 : Int)).map some) ((Res.ok (123 : Int)).map some)) (Res.ok ()))).bind fun a => t_law_account a.1 a.2.1).thn () fun v7 => 
  (((tPair (Res.ok v2.2.1) (tPair (tSl (Res.ok v1) ((Res.ok (100 : Int)).map some) ((Res.ok (110 : Int)).map some)) (Res.ok ()))).bind fun a => t_law_account a.1 a.2.1).thn () fun v8 => 
  (((tPair (Res.ok v8) (tPair (Res.ok v4) (tPair (tSl (Res.ok v1) ((Res.ok (110 : Int)).map some) ((Res.ok (113 : Int)).map some)) (Res.ok ())))).bind fun a => t_law_spoilt a.1 a.2.1 a.2.2.1).thn () fun v9 => 
  (((tPair (Res.ok ("BadAccount" : Str)) (Res.ok ())).bind fun a => t_law_due a.1).thn () fun v10 => 
  (TF.bind (tIf () (tAnd (tD dEq D.int D.int (tLen (Res.ok v9)) (tLen (Res.ok v4))) ((tPair (Res.ok v9) (tPair (Res.ok v4) (Res.ok ()))).bind fun a => t_law_below a.1 a.2.1))
  (TF.bind (tIf () ((tPair (tRep (tCons (Res.ok (0 : Int)) (Res.ok [])) (tLen (Res.ok v9))) (tPair (Res.ok v9) (Res.ok ()))).bind fun a => t_law_below a.1 a.2.1)
  ((Res.ok ([] : List Bool)).thn () fun v11 => 
  (.nx (v11, ())))
  (.nx (v10, ()))) fun v12 : ((List Bool) × Unit) => 
  (.nx (v12.1, ())))
  (.nx (v10, ()))) fun v13 : ((List Bool) × Unit) => 
  ((tR1 (Res.ok (11 : Int))).thn () fun xs => (tFor (b_law_l1 v3 v6 v7 v9 v13) xs ()).bind fun v14 => 
  ((Res.ok true).thn () fun a => .rt a))))))))))))
def t_law (a0 : (List Int)) : Res Bool := (b_law a0).res
end RC
set_option Elab.async false
set_option linter.all false
set_option maxRecDepth 100000
namespace RC
open PySem PySem.Spec PyProof.Rows L2
def seenL (c : Str) : List D := [.bl (isT c "ValueError"), .bl (isT c "BadHouses"), .bl (isT c "BadLines"), .bl (isT c "BadCover"), .bl (isT c "BadCrowns"), .bl (isT c "BadLosses"), .bl (isT c "BadAccount"), .bl (isT c "Unbacked"), .bl (isT c "Short"), .bl (isT c "Disagrees"), .bl (isT c "NoHouse"), .bl (isT c "NoCover"), .bl (isT c "NoHappening"), .bl (isT c "NoLoss"), .bl (isT c "BadDay"), .bl (isT c "BadTerms"), .bl (isT c "Endless"), .bl (isT c "Same"), .bl (isT c "Full"), .bl (isT c "BadDeed"), .bl (isT c "Nothing"), .bl (isT c "BadText")]
def seen_ (c : Str) : Option (List D) := if c = "BadHouses" ∨ c = "BadCover" ∨ c = "BadLosses" ∨ c = "BadAccount" ∨ c = "Unbacked" ∨ c = "Short" ∨ c = "Disagrees" then some (seenL c) else none
def m_are_lines_l1 : Env → Fl :=
  (sSeq (sIf (bOr (m2 kLt (mVar 2) (mC (.int 0))) (bOr (m2 kGe (mVar 2) (mC (.int 6))) (bOr (m2 kIn (mVar 2) (mVar 1)) (bOr (m2 kLt (mVar 3) (mC (.int 1))) (m2 kGt (mVar 3) (mC (.int 20)))))))
  (sRet (mUp (mC (.bl false))))
  sNil)
  (sSeq (sApp 1 (mVar 2))
  (sWp [2, 3] sNil)))
def m_are_lines : Env → Fl :=
  (sSeq (sIf (bOr (m2 kLt (mLen (mCons (mVar 0) mNil)) (mC (.int 1))) (m2 kGt (mLen (mCons (mVar 0) mNil)) (mC (.int 4))))
  (sRet (mUp (mC (.bl false))))
  sNil)
  (sSeq (sOwn 1 (mLst mNil))
  (sSeq (sFor P.tup? (mVar 0) (gT (gsCons (gN 2) (gsCons (gN 3) gsNil)) 2) m_are_lines_l1)
  (sRet (mUp (mC (.bl true)))))))
def f_are_lines : List S → CallR := runF 1 4 m_are_lines
def m_foremost_l1 : Env → Fl :=
  (sSeq (sIf (m2 kLt (mI iMul (mI iAdd (mIx (mVar 1) (mVar 3)) (mC (.int 1))) (mIx (mIx (mVar 0) (mVar 2)) (mC (.int 1)))) (mI iMul (mI iAdd (mIx (mVar 1) (mVar 2)) (mC (.int 1))) (mIx (mIx (mVar 0) (mVar 3)) (mC (.int 1)))))
  (sSeq (sSet 2 (mVar 3))
  sNil)
  sNil)
  (sWp [3] sNil))
def m_foremost : Env → Fl :=
  (sSeq (sSet 2 (mC (.int 0)))
  (sSeq (sForR kRng2 (mCons (mC (.int 1)) (mCons (mLen (mCons (mVar 0) mNil)) mNil)) (gN 3) m_foremost_l1)
  (sRet (mUp (mVar 2)))))
def f_foremost : List S → CallR := runF 2 4 m_foremost
def m_grown_parts_l1 : Env → Fl :=
  (sSeq (sAugI (fun i j => i + j) 2 (mOp (mCall f_foremost (mCons (mVar 0) (mCons (mVar 2) mNil)))) (mC (.int 1)))
  (sSeq (sApp 3 (mOp (mListc (mCons (mVar 2) mNil))))
  (sWp [4] sNil)))
def m_grown_parts : Env → Fl :=
  (sSeq (sOwn 2 (mRep (mOp (mLst (mCons (mC (.int 0)) mNil))) (mLen (mCons (mVar 0) mNil))))
  (sSeq (sOwn 3 (mLst (mCons (mOp (mListc (mCons (mVar 2) mNil))) mNil)))
  (sSeq (sForR kRng1 (mCons (mVar 1) mNil) (gN 4) m_grown_parts_l1)
  (sRetO 3))))
def f_grown_parts : List S → CallR := runF 2 5 m_grown_parts
def m_is_by : Env → Fl :=
  (sSeq (sIf (m2 kEq (mVar 0) (mC (.str "share")))
  (sRet (mUp (mAnd (mBl (m2 kGe (mVar 1) (mC (.int 1)))) (mBl (m2 kLe (mVar 1) (mC (.int 100)))))))
  sNil)
  (sRet (mUp (mAnd (mBl (m2 kEq (mVar 0) (mC (.str "layer")))) (mAnd (mBl (m2 kGe (mVar 1) (mC (.int 0)))) (mBl (m2 kLe (mVar 1) (mC (.int 200)))))))))
def f_is_by : List S → CallR := runF 2 2 m_is_by
def m_is_cover_l1 : Env → Fl :=
  (sSeq (sIf (bOr (m2 kGe (mVar 7) (mVar 0)) (m2 kEq (mVar 7) (mVar 2)))
  (sRet (mUp (mC (.bl false))))
  sNil)
  (sWp [7, 8] sNil))
def m_is_cover : Env → Fl :=
  (sSeq (sIf (m2 kNe (mLen (mCons (mVar 1) mNil)) (mC (.int 5)))
  (sRet (mUp (mC (.bl false))))
  sNil)
  (sSeq (sUnp (gT (gsCons (gN 2) (gsCons (gN 3) (gsCons (gN 4) (gsCons (gN 5) (gsCons (gN 6) gsNil))))) 5) (mVar 1))
  (sSeq (sIf (bOr (m2 kLt (mVar 2) (mC (.int 0))) (bOr (m2 kGe (mVar 2) (mVar 0)) (bOr (bNot (one1 P.bl? (mOp (mCall f_is_by (mCons (mVar 3) (mCons (mVar 4) mNil)))))) (bOr (m2 kLt (mVar 5) (mC (.int 0))) (m2 kGt (mVar 5) (mC (.int 24)))))))
  (sRet (mUp (mC (.bl false))))
  sNil)
  (sSeq (sIf (bNot (one1 P.bl? (mOp (mCall f_are_lines (mCons (mVar 6) mNil)))))
  (sRet (mUp (mC (.bl false))))
  sNil)
  (sSeq (sFor P.tup? (mVar 6) (gT (gsCons (gN 7) (gsCons (gN 8) gsNil)) 2) m_is_cover_l1)
  (sRet (mUp (mC (.bl true)))))))))
def f_is_cover : List S → CallR := runF 2 9 m_is_cover
def m_taken : Env → Fl :=
  (sSeq (sIf (m2 kEq (mVar 0) (mC (.str "share")))
  (sRet (mUp (mMin2 (mCons (mVar 2) (mCons (mI iDiv (mI iMul (mVar 3) (mVar 1)) (mC (.int 100))) mNil)))))
  sNil)
  (sRet (mUp (mMin2 (mCons (mVar 2) (mCons (mMax2 (mCons (mC (.int 0)) (mCons (mI iSub (mVar 3) (mVar 1)) mNil))) mNil))))))
def f_taken : List S → CallR := runF 4 4 m_taken
def m_look_houses : Env → Fl :=
  (sSeq (sIf (bOr (m2 kLt (mVar 0) (mC (.int 1))) (m2 kGt (mVar 0) (mC (.int 6))))
  (sRaise "BadHouses")
  sNil)
  sNil)
def f_look_houses : List S → CallR := runF 1 1 m_look_houses
def m_Table___init___l1 : Env → Fl :=
  (sSeq (sIf (bNot (one1 P.bl? (mOp (mCall f_is_cover (mCons (mVar 1) (mCons (mVar 4) mNil))))))
  (sRaise "BadCover")
  sNil)
  (sWp [4] sNil))
def m_Table___init___l2 : Env → Fl :=
  (sSeq (sIf (bOr (m2 kLt (mVar 5) (mC (.int 0))) (m2 kGt (mVar 5) (mC (.int 9999))))
  (sRaise "BadLosses")
  sNil)
  (sWp [5] sNil))
def m_Table___init__ : Env → Fl :=
  (sSeq (sExp (mCall f_look_houses (mCons (mVar 1) mNil)))
  (sSeq (sIf (m2 kGt (mLen (mCons (mVar 2) mNil)) (mC (.int 10)))
  (sRaise "BadCover")
  sNil)
  (sSeq (sFor P.it? (mVar 2) (gN 4) m_Table___init___l1)
  (sSeq (sIf (m2 kNe (mLen (mCons (mVar 3) mNil)) (mVar 1))
  (sRaise "BadLosses")
  sNil)
  (sSeq (sFor P.it? (mVar 3) (gN 5) m_Table___init___l2)
  (sSeq (sAtt "Table" "size" 0 (mVar 1))
  (sSeq (sAtt "Table" "rows" 0 (mOp (mListc (mCons (mVar 2) mNil))))
  (sSeq (sAtt "Table" "befell" 0 (mOp (mListc (mCons (mVar 3) mNil))))
  (sSeq (sAtt "Table" "splits" 0 (mOp (mLc P.it? 4 (mVar 2) tYesB (mOp (mCall f_grown_parts (mCons (mIx (mVar 4) (mC (.int 4))) (mCons (mIx (mVar 4) (mC (.int 3))) mNil)))))))
  sNil)))))))))
def f_Table___init__ : List S → CallR := runF 4 6 m_Table___init__
def m_Table_mosts : Env → Fl :=
  (sRet (mLc P.it? 1 (mAtt "Table" "rows" (mVar 0)) tYesB (mIx (mVar 1) (mC (.int 3)))))
def f_Table_mosts : List S → CallR := runF 1 2 m_Table_mosts
def m_Table_loads_l1 : Env → Fl :=
  (sSeq (sAugI (fun i j => i + j) 2 (mIx (mIx (mVar 5) (mVar 6)) (mC (.int 0))) (mIx (mVar 4) (mVar 6)))
  (sWp [6] sNil))
def m_Table_loads_l2 : Env → Fl :=
  (sSeq (sSet 4 (mIx (mIx (mAtt "Table" "splits" (mVar 0)) (mVar 3)) (mIx (mVar 1) (mVar 3))))
  (sSeq (sSet 5 (mIx (mIx (mAtt "Table" "rows" (mVar 0)) (mVar 3)) (mC (.int 4))))
  (sSeq (sForR kRng1 (mCons (mLen (mCons (mVar 5) mNil)) mNil) (gN 6) m_Table_loads_l1)
  (sWp [3, 4, 5] sNil))))
def m_Table_loads : Env → Fl :=
  (sSeq (sOwn 2 (mListc (mCons (mAtt "Table" "befell" (mVar 0)) mNil)))
  (sSeq (sForR kRng1 (mCons (mLen (mCons (mAtt "Table" "rows" (mVar 0)) mNil)) mNil) (gN 3) m_Table_loads_l2)
  (sRetO 2)))
def f_Table_loads : List S → CallR := runF 2 7 m_Table_loads
def m_Table_passed_l1 : Env → Fl :=
  (sSeq (sSet 9 (mOp (mCall f_taken (mCons (mVar 5) (mCons (mVar 6) (mCons (mVar 7) (mCons (mIx (mVar 2) (mVar 4)) mNil)))))))
  (sSeq (sAugI (fun i j => i - j) 2 (mVar 4) (mVar 9))
  (sSeq (sApp 3 (mVar 9))
  (sWp [4, 5, 6, 7, 8, 9] sNil))))
def m_Table_passed : Env → Fl :=
  (sSeq (sOwn 2 (mMeth "Table" "loads" f_Table_loads (mVar 0) (mCons (mVar 1) mNil)))
  (sSeq (sOwn 3 (mLst mNil))
  (sSeq (sFor P.it? (mAtt "Table" "rows" (mVar 0)) (gT (gsCons (gN 4) (gsCons (gN 5) (gsCons (gN 6) (gsCons (gN 7) (gsCons (gN 8) gsNil))))) 5) m_Table_passed_l1)
  (sCold 2 (sCold 3 (sRet (mUp (mTup (mCons (mVar 3) (mCons (mVar 2) mNil))))))))))
def f_Table_passed : List S → CallR := runF 2 10 m_Table_passed
def m_look_account_l1 : Env → Fl :=
  (sSeq (sIf (bOr (m2 kLt (mIx (mVar 1) (mVar 3)) (mC (.int 0))) (m2 kGt (mIx (mVar 1) (mVar 3)) (mIx (mVar 2) (mVar 3))))
  (sRaise "BadAccount")
  sNil)
  (sWp [3] sNil))
def m_look_account : Env → Fl :=
  (sSeq (sSet 2 (mOp (mMeth "Table" "mosts" f_Table_mosts (mVar 0) mNil)))
  (sSeq (sIf (m2 kNe (mLen (mCons (mVar 1) mNil)) (mLen (mCons (mVar 2) mNil)))
  (sRaise "BadAccount")
  sNil)
  (sSeq (sForR kRng1 (mCons (mLen (mCons (mVar 2) mNil)) mNil) (gN 3) m_look_account_l1)
  (sWp [2] sNil))))
def f_look_account : List S → CallR := runF 2 4 m_look_account
def m_burdens : Env → Fl :=
  (sSeq (sExp (mCall f_look_account (mCons (mVar 0) (mCons (mVar 1) mNil))))
  (sRet (mMeth "Table" "loads" f_Table_loads (mVar 0) (mCons (mVar 1) mNil))))
def f_burdens : List S → CallR := runF 2 2 m_burdens
def m_asked : Env → Fl :=
  (sSeq (sExp (mCall f_look_account (mCons (mVar 0) (mCons (mVar 1) mNil))))
  (sRet (mUp (mIx (mOp (mMeth "Table" "passed" f_Table_passed (mVar 0) (mCons (mVar 1) mNil))) (mC (.int 0))))))
def f_asked : List S → CallR := runF 2 2 m_asked
def m_settled_l1 : Env → Fl :=
  (sSeq (sSet 2 (mVar 3))
  (sSeq (sSet 3 (mIx (mOp (mMeth "Table" "passed" f_Table_passed (mVar 0) (mCons (mVar 2) mNil))) (mC (.int 0))))
  sNil))
def m_settled_l1t : Env → Res Bool :=
  (m2 kNe (mVar 3) (mVar 2))
def m_settled : Env → Fl :=
  (sSeq (sSet 2 (mOp (mListc (mCons (mVar 1) mNil))))
  (sSeq (sSet 3 (mIx (mOp (mMeth "Table" "passed" f_Table_passed (mVar 0) (mCons (mVar 2) mNil))) (mC (.int 0))))
  (sSeq (whD m_settled_l1t m_settled_l1 1000)
  (sRet (mUp (mVar 2))))))
def f_settled : List S → CallR := runF 2 4 m_settled
def m_shows_l1 : Env → Fl :=
  (sSeq (sIf (bOr (m2 kLt (mVar 4) (mC (.int 0))) (bOr (m2 kGe (mVar 4) (mLen (mCons (mVar 3) mNil))) (m2 kLe (mVar 5) (mIx (mVar 3) (mVar 4)))))
  (sRet (mUp (mC (.bl false))))
  sNil)
  (sSeq (sIf (m2 kGt (mVar 5) (mIx (mIx (mOp (mMeth "Table" "passed" f_Table_passed (mVar 0) (mCons (mVar 3) mNil))) (mC (.int 0))) (mVar 4)))
  (sRet (mUp (mC (.bl false))))
  sNil)
  (sSeq (sIt 3 (mVar 4) (mVar 5))
  (sWp [4, 5] sNil))))
def m_shows : Env → Fl :=
  (sSeq (sExp (mCall f_look_account (mCons (mVar 0) (mCons (mVar 2) mNil))))
  (sSeq (sOwn 3 (mRep (mOp (mLst (mCons (mC (.int 0)) mNil))) (mLen (mCons (mOp (mMeth "Table" "mosts" f_Table_mosts (mVar 0) mNil)) mNil))))
  (sSeq (sFor P.it? (mVar 1) (gT (gsCons (gN 4) (gsCons (gN 5) gsNil)) 2) m_shows_l1)
  (sRet (mUp (mBl (m2 kEq (mVar 3) (mOp (mListc (mCons (mVar 2) mNil))))))))))
def f_shows : List S → CallR := runF 3 6 m_shows
def m_agrees : Env → Fl :=
  (sRet (mUp (mBl (m2 kEq (mOp (mCall f_asked (mCons (mVar 0) (mCons (mVar 1) mNil)))) (mOp (mListc (mCons (mVar 1) mNil)))))))
def f_agrees : List S → CallR := runF 2 2 m_agrees
def m_lies_below_l1 : Env → Fl :=
  (sSeq (sIf (m2 kGt (mIx (mVar 0) (mVar 2)) (mIx (mVar 1) (mVar 2)))
  (sRet (mUp (mC (.bl false))))
  sNil)
  (sWp [2] sNil))
def m_lies_below : Env → Fl :=
  (sSeq (sForR kRng1 (mCons (mLen (mCons (mVar 0) mNil)) mNil) (gN 2) m_lies_below_l1)
  (sRet (mUp (mC (.bl true)))))
def f_lies_below : List S → CallR := runF 2 3 m_lies_below
def m_backed : Env → Fl :=
  (sRet (mCall f_lies_below (mCons (mVar 1) (mCons (mOp (mCall f_asked (mCons (mVar 0) (mCons (mVar 1) mNil)))) mNil))))
def f_backed : List S → CallR := runF 2 2 m_backed
def m_enough : Env → Fl :=
  (sRet (mCall f_lies_below (mCons (mOp (mCall f_asked (mCons (mVar 0) (mCons (mVar 1) mNil)))) (mCons (mVar 1) mNil))))
def f_enough : List S → CallR := runF 2 2 m_enough
def m_above : Env → Fl :=
  (sSeq (sIf (bNot (one1 P.bl? (mOp (mCall f_backed (mCons (mVar 0) (mCons (mVar 1) mNil))))))
  (sRaise "Unbacked")
  sNil)
  (sRet (mCall f_settled (mCons (mVar 0) (mCons (mVar 1) mNil)))))
def f_above : List S → CallR := runF 2 2 m_above
def m_below : Env → Fl :=
  (sSeq (sIf (bNot (one1 P.bl? (mOp (mCall f_enough (mCons (mVar 0) (mCons (mVar 1) mNil))))))
  (sRaise "Short")
  sNil)
  (sRet (mCall f_settled (mCons (mVar 0) (mCons (mVar 1) mNil)))))
def f_below : List S → CallR := runF 2 2 m_below
def m_look_both : Env → Fl :=
  (sSeq (sSet 3 (mOp (mLst (mCons (mOp (mCall f_agrees (mCons (mVar 0) (mCons (mVar 1) mNil)))) (mCons (mOp (mCall f_agrees (mCons (mVar 0) (mCons (mVar 2) mNil)))) mNil)))))
  (sSeq (sIf (m2 kIn (mC (.bl false)) (mVar 3))
  (sRaise "Disagrees")
  sNil)
  (sWp [3] sNil)))
def f_look_both : List S → CallR := runF 3 4 m_look_both
def m_joint : Env → Fl :=
  (sSeq (sExp (mCall f_look_both (mCons (mVar 0) (mCons (mVar 1) (mCons (mVar 2) mNil)))))
  (sRet (mCall f_settled (mCons (mVar 0) (mCons (mOp (mLcR kRng1 3 (mCons (mLen (mCons (mVar 1) mNil)) mNil) tYesB (mMax2 (mCons (mIx (mVar 1) (mVar 3)) (mCons (mIx (mVar 2) (mVar 3)) mNil))))) mNil)))))
def f_joint : List S → CallR := runF 3 4 m_joint
def m_meeting : Env → Fl :=
  (sSeq (sExp (mCall f_look_both (mCons (mVar 0) (mCons (mVar 1) (mCons (mVar 2) mNil)))))
  (sRet (mCall f_settled (mCons (mVar 0) (mCons (mOp (mLcR kRng1 3 (mCons (mLen (mCons (mVar 1) mNil)) mNil) tYesB (mMin2 (mCons (mIx (mVar 1) (mVar 3)) (mCons (mIx (mVar 2) (mVar 3)) mNil))))) mNil)))))
def f_meeting : List S → CallR := runF 3 4 m_meeting
def m_kept : Env → Fl :=
  (sSeq (sIf (bNot (one1 P.bl? (mOp (mCall f_agrees (mCons (mVar 0) (mCons (mVar 1) mNil))))))
  (sRaise "Disagrees")
  sNil)
  (sRet (mUp (mIx (mOp (mMeth "Table" "passed" f_Table_passed (mVar 0) (mCons (mVar 1) mNil))) (mC (.int 1))))))
def f_kept : List S → CallR := runF 2 2 m_kept
def m_law_draws_l1 : Env → Fl :=
  (sSeq (sIf (m2 kGt (mVar 5) (mC (.int 0)))
  (sSeq (sApp 2 (mI iMod (mVar 5) (mC (.int 997))))
  (sSeq (sSet 5 (mI iDiv (mVar 5) (mC (.int 997))))
  sNil))
  sNil)
  (sWp [6] sNil))
def m_law_draws_l2 : Env → Fl :=
  (sSeq (sSet 3 (mI iMod (mI iAdd (mI iAdd (mI iMul (mVar 3) (mC (.int 40009))) (mI iMod (mVar 4) (mC (.int 1000033)))) (mC (.int 13))) (mC (.int 2147483629))))
  (sSeq (sSet 5 (mI iSub (mVar 4) (mI iPow (mC (.int 10)) (mC (.int 18)))))
  (sSeq (sIf (m2 kLt (mVar 5) (mC (.int 0)))
  (sSeq (sApp 2 (mI iMod (mVar 4) (mC (.int 997))))
  sNil)
  sNil)
  (sSeq (sForR kRng1 (mCons (mC (.int 60)) mNil) (gN 6) m_law_draws_l1)
  (sWp [4, 5] sNil)))))
def m_law_draws_l3 : Env → Fl :=
  (sSeq (sSet 3 (mI iMod (mI iAdd (mI iAdd (mI iAdd (mI iMul (mVar 3) (mVar 3)) (mI iMul (mC (.int 69621)) (mVar 3))) (mI iMul (mC (.int 7)) (mVar 6))) (mC (.int 5))) (mC (.int 2147483629))))
  (sSeq (sApp 2 (mI iMod (mI iDiv (mVar 3) (mC (.int 1031))) (mC (.int 997))))
  (sWp [6] sNil)))
def m_law_draws : Env → Fl :=
  (sSeq (sOwn 2 (mLst mNil))
  (sSeq (sSet 3 (mC (.int 29)))
  (sSeq (sFor P.it? (mOp (mSlL (mVar 0) mNoP (mPart (mC (.int 63))))) (gN 4) m_law_draws_l2)
  (sSeq (sForR kRng1 (mCons (mVar 1) mNil) (gN 6) m_law_draws_l3)
  (sRet (mSlL (mVar 2) mNoP (mPart (mVar 1))))))))
def f_law_draws : List S → CallR := runF 2 7 m_law_draws
def m_law_due : Env → Fl :=
  (sSeq (sSet 1 (mOp (mLst (mCons (mC (.str "BadHouses")) (mCons (mC (.str "BadLines")) (mCons (mC (.str "BadCover")) (mCons (mC (.str "BadCrowns")) (mCons (mC (.str "BadLosses")) (mCons (mC (.str "BadAccount")) (mCons (mC (.str "Unbacked")) (mCons (mC (.str "Short")) mNil)))))))))))
  (sSeq (sSet 1 (mOp (mCat (mVar 1) (mOp (mLst (mCons (mC (.str "Disagrees")) (mCons (mC (.str "NoHouse")) (mCons (mC (.str "NoCover")) (mCons (mC (.str "NoHappening")) (mCons (mC (.str "NoLoss")) (mCons (mC (.str "BadDay")) (mCons (mC (.str "BadTerms")) (mCons (mC (.str "Endless")) mNil)))))))))))))
  (sSeq (sSet 1 (mOp (mCat (mVar 1) (mOp (mLst (mCons (mC (.str "Same")) (mCons (mC (.str "Full")) (mCons (mC (.str "BadDeed")) (mCons (mC (.str "Nothing")) (mCons (mC (.str "BadText")) mNil))))))))))
  (sRet (mCat (mOp (mLst (mCons (mC (.bl true)) mNil))) (mOp (mLc P.it? 2 (mVar 1) tYesB (mBl (m2 kEq (mVar 2) (mVar 0))))))))))
def f_law_due : List S → CallR := runF 1 3 m_law_due
def m_law_seen (a : Addr) (c : Str) : Env → Fl :=
  (sSeq (sSet 1 (mOp (mLst (mCons (mIsP 0 a (isT c "ValueError")) (mCons (mIsP 0 a (isT c "BadHouses")) (mCons (mIsP 0 a (isT c "BadLines")) (mCons (mIsP 0 a (isT c "BadCover")) mNil)))))))
  (sSeq (sSet 1 (mOp (mCat (mVar 1) (mOp (mLst (mCons (mIsP 0 a (isT c "BadCrowns")) (mCons (mIsP 0 a (isT c "BadLosses")) (mCons (mIsP 0 a (isT c "BadAccount")) mNil))))))))
  (sSeq (sSet 1 (mOp (mCat (mVar 1) (mOp (mLst (mCons (mIsP 0 a (isT c "Unbacked")) (mCons (mIsP 0 a (isT c "Short")) (mCons (mIsP 0 a (isT c "Disagrees")) (mCons (mIsP 0 a (isT c "NoHouse")) mNil)))))))))
  (sSeq (sSet 1 (mOp (mCat (mVar 1) (mOp (mLst (mCons (mIsP 0 a (isT c "NoCover")) (mCons (mIsP 0 a (isT c "NoHappening")) (mCons (mIsP 0 a (isT c "NoLoss")) (mCons (mIsP 0 a (isT c "BadDay")) mNil)))))))))
  (sSeq (sSet 1 (mOp (mCat (mVar 1) (mOp (mLst (mCons (mIsP 0 a (isT c "BadTerms")) (mCons (mIsP 0 a (isT c "Endless")) (mCons (mIsP 0 a (isT c "Same")) (mCons (mIsP 0 a (isT c "Full")) mNil)))))))))
  (sRet (mCat (mVar 1) (mOp (mLst (mCons (mIsP 0 a (isT c "BadDeed")) (mCons (mIsP 0 a (isT c "Nothing")) (mCons (mIsP 0 a (isT c "BadText")) mNil))))))))))))
def m_law_lines_l1 : Env → Fl :=
  (sSeq (sPopAt 7 3 (mI iMod (mIx (mVar 2) (mI iAdd (mC (.int 1)) (mVar 4))) (mLen (mCons (mVar 3) mNil))))
  (sSeq (sSet 8 (mI iAdd (mC (.int 1)) (mI iMod (mI iDiv (mIx (mVar 2) (mI iAdd (mC (.int 1)) (mVar 4))) (mC (.int 7))) (mC (.int 20)))))
  (sSeq (sIf (m2 kEq (mI iMod (mI iDiv (mIx (mVar 2) (mC (.int 0))) (mC (.int 4))) (mC (.int 3))) (mC (.int 1)))
  (sSeq (sSet 8 (mI iAdd (mC (.int 1)) (mI iMod (mI iDiv (mIx (mVar 2) (mI iAdd (mC (.int 1)) (mVar 4))) (mC (.int 7))) (mC (.int 3)))))
  sNil)
  sNil)
  (sSeq (sApp 6 (mTup (mCons (mVar 7) (mCons (mVar 8) mNil))))
  (sWp [4, 7, 8] sNil)))))
def m_law_lines : Env → Fl :=
  (sSeq (sOwn 3 (mLcR kRng1 4 (mCons (mVar 0) mNil) (m2 kNe (mVar 4) (mVar 1)) (mVar 4)))
  (sSeq (sSet 5 (mI iAdd (mC (.int 1)) (mI iMod (mIx (mVar 2) (mC (.int 0))) (mMin2 (mCons (mC (.int 4)) (mCons (mLen (mCons (mVar 3) mNil)) mNil))))))
  (sSeq (sOwn 6 (mLst mNil))
  (sSeq (sForR kRng1 (mCons (mVar 5) mNil) (gN 4) m_law_lines_l1)
  (sRet (mUp (mTupc (mCons (mVar 6) mNil))))))))
def f_law_lines : List S → CallR := runF 3 9 m_law_lines
def m_law_cover : Env → Fl :=
  (sSeq (sSet 2 (mI iMod (mIx (mVar 1) (mC (.int 0))) (mVar 0)))
  (sSeq (sSet 3 (mIx (mOp (mLst (mCons (mC (.str "share")) (mCons (mC (.str "layer")) mNil)))) (mI iMod (mIx (mVar 1) (mC (.int 1))) (mC (.int 2)))))
  (sSeq (sSet 4 (mI iMod (mIx (mVar 1) (mC (.int 2))) (mC (.int 201))))
  (sSeq (sIf (m2 kEq (mI iMod (mI iDiv (mIx (mVar 1) (mC (.int 1))) (mC (.int 2))) (mC (.int 3))) (mC (.int 1)))
  (sSeq (sSet 4 (mI iMod (mIx (mVar 1) (mC (.int 2))) (mC (.int 9))))
  sNil)
  sNil)
  (sSeq (sIf (m2 kEq (mVar 3) (mC (.str "share")))
  (sSeq (sSet 4 (mIx (mOp (mLst (mCons (mI iAdd (mC (.int 1)) (mI iMod (mIx (mVar 1) (mC (.int 2))) (mC (.int 100)))) (mCons (mC (.int 100)) (mCons (mI iAdd (mC (.int 50)) (mI iMod (mIx (mVar 1) (mC (.int 2))) (mC (.int 50)))) mNil))))) (mI iMod (mI iDiv (mIx (mVar 1) (mC (.int 1))) (mC (.int 2))) (mC (.int 3)))))
  sNil)
  sNil)
  (sSeq (sSet 5 (mI iMod (mIx (mVar 1) (mC (.int 3))) (mC (.int 25))))
  (sRet (mUp (mTup (mCons (mVar 2) (mCons (mVar 3) (mCons (mVar 4) (mCons (mVar 5) (mCons (mOp (mCall f_law_lines (mCons (mVar 0) (mCons (mVar 2) (mCons (mOp (mSlL (mVar 1) (mPart (mC (.int 4))) (mPart (mC (.int 9))))) mNil))))) mNil))))))))))))))
def f_law_cover : List S → CallR := runF 2 6 m_law_cover
def m_law_rows : Env → Fl :=
  (sSeq (sIf (m2 kEq (mVar 0) (mC (.int 1)))
  (sRet (mLst mNil))
  sNil)
  (sSeq (sSet 2 (mI iMod (mIx (mVar 1) (mC (.int 0))) (mC (.int 11))))
  (sSeq (sSet 3 (mOp (mLcR kRng1 4 (mCons (mVar 2) mNil) tYesB (mOp (mCall f_law_cover (mCons (mVar 0) (mCons (mOp (mSlL (mVar 1) (mPart (mI iAdd (mC (.int 1)) (mI iMul (mC (.int 9)) (mVar 4)))) (mPart (mI iAdd (mC (.int 10)) (mI iMul (mC (.int 9)) (mVar 4)))))) mNil)))))))
  (sSeq (sIf (m2 kEq (mI iMod (mI iDiv (mIx (mVar 1) (mC (.int 0))) (mC (.int 11))) (mC (.int 6))) (mC (.int 1)))
  (sSeq (sSet 3 (mOp (mLcR kRng1 4 (mCons (mVar 2) mNil) tYesB (mIx (mVar 3) (mI iDiv (mVar 4) (mC (.int 2)))))))
  sNil)
  sNil)
  (sRet (mUp (mVar 3)))))))
def f_law_rows : List S → CallR := runF 2 5 m_law_rows
def m_law_losses_l1 : Env → Fl :=
  (sSeq (sSet 4 (mIx (mVar 1) (mI iAdd (mC (.int 1)) (mVar 3))))
  (sSeq (sApp 2 (mIx (mOp (mLst (mCons (mC (.int 0)) (mCons (mI iMod (mVar 4) (mC (.int 12))) (mCons (mI iMod (mVar 4) (mC (.int 90))) (mCons (mI iMod (mVar 4) (mC (.int 300))) (mCons (mI iMod (mI iMul (mVar 4) (mC (.int 9))) (mC (.int 10000))) mNil))))))) (mI iMod (mI iAdd (mIx (mVar 1) (mC (.int 0))) (mI iDiv (mVar 4) (mC (.int 300)))) (mC (.int 5)))))
  (sWp [3, 4] sNil)))
def m_law_losses : Env → Fl :=
  (sSeq (sOwn 2 (mLst mNil))
  (sSeq (sForR kRng1 (mCons (mVar 0) mNil) (gN 3) m_law_losses_l1)
  (sRetO 2)))
def f_law_losses : List S → CallR := runF 2 5 m_law_losses
def m_law_made : Env → Fl :=
  (sSeq (sSet 1 (mI iAdd (mC (.int 1)) (mI iMod (mI iAdd (mIx (mVar 0) (mC (.int 0))) (mC (.int 3))) (mC (.int 6)))))
  (sRet (mUp (mTup (mCons (mVar 1) (mCons (mOp (mCall f_law_rows (mCons (mVar 1) (mCons (mOp (mSlL (mVar 0) (mPart (mC (.int 8))) (mPart (mC (.int 99))))) mNil)))) (mCons (mOp (mCall f_law_losses (mCons (mVar 1) (mCons (mOp (mSlL (mVar 0) (mPart (mC (.int 1))) (mPart (mC (.int 8))))) mNil)))) mNil)))))))
def f_law_made : List S → CallR := runF 1 2 m_law_made
def m_law_split_l1 : Env → Fl :=
  (sSeq (sSet 7 (mI iMul (mI iAdd (mIx (mVar 2) (mVar 6)) (mC (.int 1))) (mIx (mIx (mVar 0) (mVar 5)) (mC (.int 1)))))
  (sSeq (sIf (m2 kLt (mVar 7) (mI iMul (mI iAdd (mIx (mVar 2) (mVar 5)) (mC (.int 1))) (mIx (mIx (mVar 0) (mVar 6)) (mC (.int 1)))))
  (sSeq (sSet 5 (mVar 6))
  sNil)
  sNil)
  (sWp [6, 7] sNil)))
def m_law_split_l2 : Env → Fl :=
  (sSeq (sSet 5 (mC (.int 0)))
  (sSeq (sForR kRng1 (mCons (mLen (mCons (mVar 0) mNil)) mNil) (gN 6) m_law_split_l1)
  (sSeq (sIt 2 (mVar 5) (mI iAdd (mIx (mVar 2) (mVar 5)) (mC (.int 1))))
  (sSeq (sApp 3 (mOp (mListc (mCons (mVar 2) mNil))))
  (sWp [4, 5] sNil)))))
def m_law_split : Env → Fl :=
  (sSeq (sOwn 2 (mRep (mOp (mLst (mCons (mC (.int 0)) mNil))) (mLen (mCons (mVar 0) mNil))))
  (sSeq (sOwn 3 (mLst (mCons (mOp (mListc (mCons (mVar 2) mNil))) mNil)))
  (sSeq (sForR kRng1 (mCons (mVar 1) mNil) (gN 4) m_law_split_l2)
  (sRetO 3))))
def f_law_split : List S → CallR := runF 2 8 m_law_split
def m_law_splits : Env → Fl :=
  (sRet (mLc P.it? 1 (mVar 0) tYesB (mOp (mCall f_law_split (mCons (mIx (mVar 1) (mC (.int 4))) (mCons (mIx (mVar 1) (mC (.int 3))) mNil))))))
def f_law_splits : List S → CallR := runF 1 2 m_law_splits
def m_law_loads_l1 : Env → Fl :=
  (sSeq (sSet 9 (mIx (mIx (mVar 6) (mVar 8)) (mC (.int 0))))
  (sSeq (sIt 4 (mVar 9) (mI iAdd (mIx (mVar 4) (mVar 9)) (mIx (mVar 7) (mVar 8))))
  (sWp [8, 9] sNil)))
def m_law_loads_l2 : Env → Fl :=
  (sSeq (sSet 6 (mIx (mIx (mVar 0) (mVar 5)) (mC (.int 4))))
  (sSeq (sSet 7 (mIx (mIx (mVar 2) (mVar 5)) (mIx (mVar 3) (mVar 5))))
  (sSeq (sForR kRng1 (mCons (mLen (mCons (mVar 6) mNil)) mNil) (gN 8) m_law_loads_l1)
  (sWp [5, 6, 7] sNil))))
def m_law_loads : Env → Fl :=
  (sSeq (sOwn 4 (mListc (mCons (mVar 1) mNil)))
  (sSeq (sForR kRng1 (mCons (mLen (mCons (mVar 0) mNil)) mNil) (gN 5) m_law_loads_l2)
  (sRetO 4)))
def f_law_loads : List S → CallR := runF 4 10 m_law_loads
def m_law_take : Env → Fl :=
  (sSeq (sIf (m2 kEq (mVar 0) (mC (.str "share")))
  (sRet (mUp (mMin2 (mCons (mVar 2) (mCons (mI iDiv (mI iMul (mVar 3) (mVar 1)) (mC (.int 100))) mNil)))))
  sNil)
  (sSeq (sIf (m2 kLe (mVar 3) (mVar 1))
  (sRet (mUp (mC (.int 0))))
  sNil)
  (sRet (mUp (mMin2 (mCons (mVar 2) (mCons (mI iSub (mVar 3) (mVar 1)) mNil)))))))
def f_law_take : List S → CallR := runF 4 4 m_law_take
def m_law_passed_l1 : Env → Fl :=
  (sSeq (sSet 11 (mOp (mCall f_law_take (mCons (mVar 7) (mCons (mVar 8) (mCons (mVar 9) (mCons (mIx (mVar 4) (mVar 6)) mNil)))))))
  (sSeq (sIt 4 (mVar 6) (mI iSub (mIx (mVar 4) (mVar 6)) (mVar 11)))
  (sSeq (sApp 5 (mVar 11))
  (sWp [6, 7, 8, 9, 10, 11] sNil))))
def m_law_passed : Env → Fl :=
  (sSeq (sOwn 4 (mCall f_law_loads (mCons (mVar 0) (mCons (mVar 1) (mCons (mVar 2) (mCons (mVar 3) mNil))))))
  (sSeq (sOwn 5 (mLst mNil))
  (sSeq (sFor P.it? (mVar 0) (gT (gsCons (gN 6) (gsCons (gN 7) (gsCons (gN 8) (gsCons (gN 9) (gsCons (gN 10) gsNil))))) 5) m_law_passed_l1)
  (sCold 4 (sCold 5 (sRet (mUp (mTup (mCons (mVar 5) (mCons (mVar 4) mNil))))))))))
def f_law_passed : List S → CallR := runF 4 12 m_law_passed
def m_law_come_l1 : Env → Fl :=
  (sSeq (sIf (m2 kNe (mVar 5) (mVar 4))
  (sSeq (sSet 4 (mVar 5))
  (sSeq (sSet 5 (mIx (mOp (mCall f_law_passed (mCons (mVar 0) (mCons (mVar 1) (mCons (mVar 2) (mCons (mVar 4) mNil)))))) (mC (.int 0))))
  sNil))
  sNil)
  (sWp [6] sNil))
def m_law_come : Env → Fl :=
  (sSeq (sSet 4 (mOp (mListc (mCons (mVar 3) mNil))))
  (sSeq (sSet 5 (mIx (mOp (mCall f_law_passed (mCons (mVar 0) (mCons (mVar 1) (mCons (mVar 2) (mCons (mVar 4) mNil)))))) (mC (.int 0))))
  (sSeq (sForR kRng1 (mCons (mC (.int 241)) mNil) (gN 6) m_law_come_l1)
  (sRet (mUp (mVar 4))))))
def f_law_come : List S → CallR := runF 4 7 m_law_come
def m_law_below_l1 : Env → Fl :=
  (sSeq (sIf (m2 kGt (mIx (mVar 0) (mVar 2)) (mIx (mVar 1) (mVar 2)))
  (sRet (mUp (mC (.bl false))))
  sNil)
  (sWp [2] sNil))
def m_law_below : Env → Fl :=
  (sSeq (sForR kRng1 (mCons (mLen (mCons (mVar 0) mNil)) mNil) (gN 2) m_law_below_l1)
  (sRet (mUp (mC (.bl true)))))
def f_law_below : List S → CallR := runF 2 3 m_law_below
def m_law_account : Env → Fl :=
  (sRet (mLcR kRng1 2 (mCons (mLen (mCons (mVar 0) mNil)) mNil) tYesB (mI iMod (mIx (mVar 1) (mVar 2)) (mI iAdd (mIx (mIx (mVar 0) (mVar 2)) (mC (.int 3))) (mC (.int 1))))))
def f_law_account : List S → CallR := runF 2 3 m_law_account
def m_law_least : Env → Fl :=
  (sRet (mCall f_law_come (mCons (mVar 0) (mCons (mVar 1) (mCons (mVar 2) (mCons (mOp (mRep (mOp (mLst (mCons (mC (.int 0)) mNil))) (mLen (mCons (mVar 0) mNil)))) mNil))))))
def f_law_least : List S → CallR := runF 3 3 m_law_least
def m_law_door_t1 : Env → Fl :=
  (sSeq (sIf (m2 kEq (mVar 0) (mC (.int 0)))
  (sSeq (sExp (mCall f_burdens (mCons (mVar 1) (mCons (mVar 2) mNil))))
  sNil)
  (sSeq (sIf (m2 kEq (mVar 0) (mC (.int 1)))
  (sSeq (sExp (mCall f_asked (mCons (mVar 1) (mCons (mVar 2) mNil))))
  sNil)
  (sSeq (sIf (m2 kEq (mVar 0) (mC (.int 2)))
  (sSeq (sExp (mCall f_agrees (mCons (mVar 1) (mCons (mVar 2) mNil))))
  sNil)
  (sSeq (sIf (m2 kEq (mVar 0) (mC (.int 3)))
  (sSeq (sExp (mCall f_backed (mCons (mVar 1) (mCons (mVar 2) mNil))))
  sNil)
  (sSeq (sIf (m2 kEq (mVar 0) (mC (.int 4)))
  (sSeq (sExp (mCall f_enough (mCons (mVar 1) (mCons (mVar 2) mNil))))
  sNil)
  (sSeq (sIf (m2 kEq (mVar 0) (mC (.int 5)))
  (sSeq (sExp (mCall f_kept (mCons (mVar 1) (mCons (mVar 2) mNil))))
  sNil)
  (sSeq (sIf (m2 kEq (mVar 0) (mC (.int 6)))
  (sSeq (sExp (mCall f_shows (mCons (mVar 1) (mCons (mOp (mLst mNil)) (mCons (mVar 2) mNil)))))
  sNil)
  (sSeq (sIf (m2 kEq (mVar 0) (mC (.int 7)))
  (sSeq (sExp (mCall f_above (mCons (mVar 1) (mCons (mVar 2) mNil))))
  sNil)
  (sSeq (sIf (m2 kEq (mVar 0) (mC (.int 8)))
  (sSeq (sExp (mCall f_below (mCons (mVar 1) (mCons (mVar 2) mNil))))
  sNil)
  (sSeq (sIf (m2 kEq (mVar 0) (mC (.int 9)))
  (sSeq (sExp (mCall f_joint (mCons (mVar 1) (mCons (mVar 2) (mCons (mVar 3) mNil)))))
  sNil)
  (sSeq (sExp (mCall f_meeting (mCons (mVar 1) (mCons (mVar 2) (mCons (mVar 3) mNil)))))
  sNil))
  sNil))
  sNil))
  sNil))
  sNil))
  sNil))
  sNil))
  sNil))
  sNil))
  sNil))
  sNil)
def m_law_door : Env → Fl :=
  (sSeq (sSet 4 (mOp (mLst mNil)))
  (sSeq (sTry m_law_door_t1 4 5 ring_ seen_)
  (sRet (mUp (mVar 4)))))
def f_law_door : List S → CallR := runF 4 6 m_law_door
def m_law_spoilt : Env → Fl :=
  (sSeq (sSet 3 (mI iMod (mIx (mVar 2) (mC (.int 0))) (mC (.int 6))))
  (sSeq (sIf (m2 kEq (mLen (mCons (mVar 0) mNil)) (mC (.int 0)))
  (sRet (mLst (mCons (mIx (mVar 2) (mC (.int 1))) mNil)))
  sNil)
  (sSeq (sSet 4 (mI iMod (mIx (mVar 2) (mC (.int 1))) (mLen (mCons (mVar 0) mNil))))
  (sSeq (sIf (m2 kEq (mVar 3) (mC (.int 1)))
  (sRet (mCat (mOp (mCat (mOp (mSlL (mVar 0) mNoP (mPart (mVar 4)))) (mOp (mLst (mCons (mI iSub (mNeg (mC (.int 1))) (mI iMod (mIx (mVar 2) (mC (.int 2))) (mC (.int 3)))) mNil))))) (mOp (mSlL (mVar 0) (mPart (mI iAdd (mVar 4) (mC (.int 1)))) mNoP))))
  sNil)
  (sSeq (sIf (m2 kEq (mVar 3) (mC (.int 2)))
  (sSeq (sSet 5 (mI iAdd (mI iAdd (mIx (mVar 1) (mVar 4)) (mC (.int 1))) (mI iMod (mIx (mVar 2) (mC (.int 2))) (mC (.int 3)))))
  (sRet (mCat (mOp (mCat (mOp (mSlL (mVar 0) mNoP (mPart (mVar 4)))) (mOp (mLst (mCons (mVar 5) mNil))))) (mOp (mSlL (mVar 0) (mPart (mI iAdd (mVar 4) (mC (.int 1)))) mNoP)))))
  sNil)
  (sSeq (sIf (m2 kEq (mVar 3) (mC (.int 3)))
  (sRet (mCat (mOp (mCat (mOp (mSlL (mVar 0) mNoP (mPart (mVar 4)))) (mOp (mLst (mCons (mC (.int 0)) mNil))))) (mOp (mSlL (mVar 0) (mPart (mVar 4)) mNoP))))
  sNil)
  (sSeq (sIf (m2 kEq (mVar 3) (mC (.int 4)))
  (sRet (mCat (mOp (mSlL (mVar 0) mNoP (mPart (mVar 4)))) (mOp (mSlL (mVar 0) (mPart (mI iAdd (mVar 4) (mC (.int 1)))) mNoP))))
  sNil)
  (sSeq (sIf (m2 kEq (mVar 3) (mC (.int 5)))
  (sRet (mCat (mOp (mCat (mOp (mSlL (mVar 0) mNoP (mPart (mVar 4)))) (mOp (mLst (mCons (mI iPow (mC (.int 10)) (mC (.int 20))) mNil))))) (mOp (mSlL (mVar 0) (mPart (mI iAdd (mVar 4) (mC (.int 1)))) mNoP))))
  sNil)
  (sRet (mUp (mVar 0)))))))))))
def f_law_spoilt : List S → CallR := runF 3 6 m_law_spoilt
def m_law_l1 : Env → Fl :=
  (sSeq (sSet 13 (mOp (mCall f_law_door (mCons (mVar 12) (mCons (mVar 5) (mCons (mOp (mListc (mCons (mVar 10) mNil))) (mCons (mOp (mListc (mCons (mVar 8) mNil))) mNil)))))))
  (sSeq (sSet 14 (mOp (mCall f_law_door (mCons (mVar 12) (mCons (mVar 5) (mCons (mOp (mListc (mCons (mVar 8) mNil))) (mCons (mOp (mListc (mCons (mVar 10) mNil))) mNil)))))))
  (sSeq (sSet 15 (mOp (mCall f_law_door (mCons (mVar 12) (mCons (mVar 5) (mCons (mOp (mListc (mCons (mVar 10) mNil))) (mCons (mOp (mListc (mCons (mVar 10) mNil))) mNil)))))))
  (sSeq (sSet 16 (mOp (mCall f_law_door (mCons (mVar 12) (mCons (mVar 5) (mCons (mOp (mListc (mCons (mVar 9) mNil))) (mCons (mOp (mListc (mCons (mVar 10) mNil))) mNil)))))))
  (sSeq (sIf (bAnd (m2 kEq (mVar 11) (mOp (mLst mNil))) (bAnd (m2 kIn (mVar 12) (mTup (mCons (mC (.int 0)) (mCons (mC (.int 1)) (mCons (mC (.int 2)) (mCons (mC (.int 3)) (mCons (mC (.int 4)) (mCons (mC (.int 6)) mNil)))))))) (m2 kNe (mVar 13) (mOp (mLst mNil)))))
  (sRet (mUp (mC (.bl false))))
  sNil)
  (sSeq (sIf (bAnd (m2 kNe (mVar 11) (mOp (mLst mNil))) (bOr (m2 kNe (mVar 13) (mVar 11)) (m2 kNe (mVar 15) (mVar 11))))
  (sRet (mUp (mC (.bl false))))
  sNil)
  (sSeq (sIf (bAnd (m2 kNe (mVar 11) (mOp (mLst mNil))) (bAnd (m2 kGt (mVar 12) (mC (.int 8))) (bOr (m2 kNe (mVar 14) (mVar 11)) (m2 kNe (mVar 16) (mVar 11)))))
  (sRet (mUp (mC (.bl false))))
  sNil)
  (sSeq (sIf (m2 kNe (mOp (mCall f_law_door (mCons (mVar 12) (mCons (mVar 5) (mCons (mOp (mListc (mCons (mVar 8) mNil))) (mCons (mOp (mListc (mCons (mVar 8) mNil))) mNil)))))) (mOp (mLst mNil)))
  (sRet (mUp (mC (.bl false))))
  sNil)
  (sWp [12, 13, 14, 15, 16] sNil)))))))))
def m_law : Env → Fl :=
  (sSeq (sSet 1 (mOp (mCall f_law_draws (mCons (mVar 0) (mCons (mC (.int 130)) mNil)))))
  (sSeq (sUnp (gT (gsCons (gN 2) (gsCons (gN 3) (gsCons (gN 4) gsNil))) 3) (mOp (mCall f_law_made (mCons (mVar 1) mNil))))
  (sSeq (sSet 5 (mOp (mMake "Table" f_Table___init__ (mCons (mVar 2) (mCons (mVar 3) (mCons (mVar 4) mNil))))))
  (sSeq (sSet 6 (mOp (mLc P.it? 7 (mVar 3) tYesB (mIx (mVar 7) (mC (.int 3))))))
  (sSeq (sSet 8 (mOp (mCall f_law_least (mCons (mVar 3) (mCons (mVar 4) (mCons (mOp (mCall f_law_splits (mCons (mVar 3) mNil))) mNil))))))
  (sSeq (sSet 9 (mOp (mCall f_law_account (mCons (mVar 3) (mCons (mOp (mSlL (mVar 1) (mPart (mC (.int 113))) (mPart (mC (.int 123))))) mNil)))))
  (sSeq (sSet 10 (mOp (mCall f_law_account (mCons (mVar 3) (mCons (mOp (mSlL (mVar 1) (mPart (mC (.int 100))) (mPart (mC (.int 110))))) mNil)))))
  (sSeq (sSet 10 (mOp (mCall f_law_spoilt (mCons (mVar 10) (mCons (mVar 6) (mCons (mOp (mSlL (mVar 1) (mPart (mC (.int 110))) (mPart (mC (.int 113))))) mNil))))))
  (sSeq (sSet 11 (mOp (mCall f_law_due (mCons (mC (.str "BadAccount")) mNil))))
  (sSeq (sIf (bAnd (m2 kEq (mLen (mCons (mVar 10) mNil)) (mLen (mCons (mVar 6) mNil))) (one1 P.bl? (mOp (mCall f_law_below (mCons (mVar 10) (mCons (mVar 6) mNil))))))
  (sSeq (sIf (one1 P.bl? (mOp (mCall f_law_below (mCons (mOp (mRep (mOp (mLst (mCons (mC (.int 0)) mNil))) (mLen (mCons (mVar 10) mNil)))) (mCons (mVar 10) mNil)))))
  (sSeq (sSet 11 (mOp (mLst mNil)))
  sNil)
  sNil)
  sNil)
  sNil)
  (sSeq (sForR kRng1 (mCons (mC (.int 11)) mNil) (gN 12) m_law_l1)
  (sRet (mUp (mC (.bl true)))))))))))))))
def f_law : List S → CallR := runF 1 17 m_law
end RC
set_option Elab.async false
set_option linter.all false
set_option maxRecDepth 100000
set_option maxHeartbeats 1000000
namespace RC
open PySem PySem.Spec PyProof.Rows L2

theorem seen_B : ∀ c, seen_ c = (seenB_ c).map fun bs => bs.map D.bl := by
  intro c
  unfold seen_ seenB_
  split <;> rfl
def isPK (a : Addr) (b : Bool) (s : Option S) : Res P := match s with
  | some (.pin (.ref a')) => if a' = a then .ok (.fz (.bl b)) else .stuck
  | _ => .stuck
theorem mIsP_eq (i : Nat) (a : Addr) (b : Bool) (env : Env) : mIsP i a b env = isPK a b env[i]? := id rfl
theorem isPK_pin (a : Addr) (b : Bool) : isPK a b (some (.pin (.ref a))) = .ok (.fz (.bl b)) := if_pos rfl
theorem kCat_lst (xs ys : List D) (h : xs.length + ys.length ≤ 16777216) : kCat (.fz (.lst xs)) (.fz (.lst ys)) = some (xs ++ ys) := by
  unfold kCat
  simp [h]
theorem disp3 (a b c : D) : kDisp [.fz a, .fz b, .fz c] = some [a, b, c] := kDisp_fz (ds := [a, b, c]) (by simp)
theorem disp4 (a b c d : D) : kDisp [.fz a, .fz b, .fz c, .fz d] = some [a, b, c, d] := kDisp_fz (ds := [a, b, c, d]) (by simp)
theorem seen_eval : ∀ a c ds, seen_ c = some ds → ∃ e, m_law_seen a c (.pin (.ref a) :: List.replicate 1 .un) = .rt (.tmp (.lst ds)) e := by
  intro a c ds h
  unfold seen_ at h
  split at h
  · obtain rfl := Option.some.inj h
    have key : ∀ r, m_law_seen a c [.pin (.ref a), .un] = r → ∃ e, r = .rt (.tmp (.lst (seenL c))) e := by
      intro r hr
      simp [m_law_seen, kCat_lst, mIsP_eq, isPK_pin, disp3, disp4] at hr
      subst hr
      exact ⟨_, rfl⟩
    exact key _ rfl
  · cases h
set_option maxHeartbeats 4000000 in
theorem cf_are_lines : CF f_are_lines (fun a : ((List (Int × Int × Unit)) × Unit) => t_are_lines a.1) (aCons (sF (eS (eT (eP D.int (eP D.int eU))))) aNil) (qN D.bl) := by
  refine cg_F fun a0 => cg_nil ?_
  have js : JS (kD (qN D.bl)) m_are_lines [.fz ((eS (eT (eP D.int (eP D.int eU)))) a0), .un, .un, .un] (b_are_lines a0) Empty.elim := by
    unfold b_are_lines m_are_lines
    exact (js_ifT (E0 := Empty.elim) (jb_or (j_lt (j_lenS (e := (eT (eP D.int (eP D.int eU)))) (J.FC (j_fz (e := (eS (eT (eP D.int (eP D.int eU))))) (a := a0) rfl))) j_int) (j_gt (j_lenS (e := (eT (eP D.int (eP D.int eU)))) (J.FC (j_fz (e := (eS (eT (eP D.int (eP D.int eU))))) (a := a0) rfl))) j_int))
  (js_ret (fun a => a) (j_up j_bl) fun _ _ h => h)
  (js_own (j_lst (jl_nil (e := D.int))) fun v1 => 
  (js_forT (e := (eT (eP D.int (eP D.int eU)))) (Eg := (fun (v2 : ((List Int) × Unit)) (v3 : (Int × Int × Unit)) => [.fz ((eS (eT (eP D.int (eP D.int eU)))) a0), .ow ((oL D.int) v2.1), .fz (D.int v3.1), .fz (D.int v3.2.1)])) (fun v2 : ((List Int) × Unit) => [.fz ((eS (eT (eP D.int (eP D.int eU)))) a0), .ow ((oL D.int) v2.1), .un, .un]) (v1, ()) (J.FC (j_fz (e := (eS (eT (eP D.int (eP D.int eU))))) (a := a0) rfl)) (fun _ _ => rfl) (fun v2 v3 => 
  (js_ifT (E0 := Empty.elim) (jb_or (j_lt (j_fz (e := D.int) (a := v3.1) rfl) j_int) (jb_or (j_ge (j_fz (e := D.int) (a := v3.1) rfl) j_int) (jb_or (j_in (e := D.int) (e' := (eL D.int)) (j_fz (e := D.int) (a := v3.1) rfl) (j_ow (eo := (oL D.int)) (a := v2.1) (e := (eL D.int)) rfl)) (jb_or (j_lt (j_fz (e := D.int) (a := v3.2.1) rfl) j_int) (j_gt (j_fz (e := D.int) (a := v3.2.1) rfl) j_int)))))
  (js_ret (fun a => a) (j_up j_bl) fun _ _ h => h)
  (js_app (e := D.int) rfl (j_fz (e := D.int) (a := v3.1) rfl) fun v4 => 
  (js_wp [2, 3] (js_nil rfl))))) fun v2 => 
  (js_ret (fun a => a) (j_up j_bl) fun _ _ h => h))))
  exact run_res (np := 1) (n := 4) rfl (by decide) rfl nb_N js
set_option maxHeartbeats 4000000 in
theorem cf_foremost : CF f_foremost (fun a : ((List (Int × Int × Unit)) × (List Int) × Unit) => t_foremost a.1 a.2.1) (aCons (sF (eS (eT (eP D.int (eP D.int eU))))) (aCons (sR (eL D.int)) aNil)) (qN D.int) := by
  refine cg_F fun a0 => cg_R fun a1 s1 h1 => cg_nil ?_
  have js : JS (kD (qN D.int)) m_foremost [.fz ((eS (eT (eP D.int (eP D.int eU)))) a0), s1, .un, .un] (b_foremost a0 a1) Empty.elim := by
    unfold b_foremost m_foremost
    exact (js_set (e := D.int) j_int fun v1 => 
  (js_forR (Eg := (fun (v2 : (Int × Unit)) (v3 : Int) => [.fz ((eS (eT (eP D.int (eP D.int eU)))) a0), s1, .fz (D.int v2.1), .fz (D.int v3)])) (fun v2 : (Int × Unit) => [.fz ((eS (eT (eP D.int (eP D.int eU)))) a0), s1, .fz (D.int v2.1), .un]) (v1, ()) (j_r2 j_int (j_lenS (e := (eT (eP D.int (eP D.int eU)))) (J.FC (j_fz (e := (eS (eT (eP D.int (eP D.int eU))))) (a := a0) rfl)))) (fun _ _ => rfl) (fun v2 v3 => 
  (js_seq (En := (fun v5 : (Int × Unit) => [.fz ((eS (eT (eP D.int (eP D.int eU)))) a0), s1, .fz (D.int v5.1), .fz (D.int v3)])) (js_if (j_lt (j_I (j_I (j_ixL (J.AC (j_rd h1 rfl)) (j_fz (e := D.int) (a := v3) rfl)) j_int) (j_ixT (e' := D.int) (fun x : (Int × Int × Unit) => x.2.1) (1) (J.FC (j_ixS (J.FC (j_fz (e := (eS (eT (eP D.int (eP D.int eU))))) (a := a0) rfl)) (j_fz (e := D.int) (a := v2.1) rfl))) (fun _ => rfl) (fun _ => rfl))) (j_I (j_I (j_ixL (J.AC (j_rd h1 rfl)) (j_fz (e := D.int) (a := v2.1) rfl)) j_int) (j_ixT (e' := D.int) (fun x : (Int × Int × Unit) => x.2.1) (1) (J.FC (j_ixS (J.FC (j_fz (e := (eS (eT (eP D.int (eP D.int eU))))) (a := a0) rfl)) (j_fz (e := D.int) (a := v3) rfl))) (fun _ => rfl) (fun _ => rfl))))
  (js_set (e := D.int) (j_fz (e := D.int) (a := v3) rfl) fun v4 => 
  (js_nil rfl))
  (js_nil rfl)) fun v5 => 
  (js_wp [3] (js_nil rfl)))) fun v2 => 
  (js_ret (fun a => a) (j_up (j_fz (e := D.int) (a := v2.1) rfl)) fun _ _ h => h)))
  exact run_res (np := 2) (n := 4) rfl (by decide) rfl nb_N js
set_option maxHeartbeats 4000000 in
theorem cf_grown_parts : CF f_grown_parts (fun a : ((List (Int × Int × Unit)) × Int × Unit) => t_grown_parts a.1 a.2.1) (aCons (sF (eS (eT (eP D.int (eP D.int eU))))) (aCons (sF D.int) aNil)) (qT (oL (eL D.int))) := by
  refine cg_F fun a0 => cg_F fun a1 => cg_nil ?_
  have js : JS (kD (qT (oL (eL D.int)))) m_grown_parts [.fz ((eS (eT (eP D.int (eP D.int eU)))) a0), .fz (D.int a1), .un, .un, .un] (b_grown_parts a0 a1) Empty.elim := by
    unfold b_grown_parts m_grown_parts
    exact (js_own (j_rep (J.FC (j_opT (j_lst (jl_cons j_int (jl_nil (e := D.int)))))) (j_lenS (e := (eT (eP D.int (eP D.int eU)))) (J.FC (j_fz (e := (eS (eT (eP D.int (eP D.int eU))))) (a := a0) rfl)))) fun v1 => 
  (js_own (j_lst (jl_cons (j_opT (j_listL (e := D.int) (j_ow (eo := (oL D.int)) (a := v1) (e := (eL D.int)) rfl))) (jl_nil (e := (eL D.int))))) fun v2 => 
  (js_forR (Eg := (fun (v3 : ((List Int) × (List (List Int)) × Unit)) (v4 : Int) => [.fz ((eS (eT (eP D.int (eP D.int eU)))) a0), .fz (D.int a1), .ow ((oL D.int) v3.1), .ow ((oL (eL D.int)) v3.2.1), .fz (D.int v4)])) (fun v3 : ((List Int) × (List (List Int)) × Unit) => [.fz ((eS (eT (eP D.int (eP D.int eU)))) a0), .fz (D.int a1), .ow ((oL D.int) v3.1), .ow ((oL (eL D.int)) v3.2.1), .un]) (v1, v2, ()) (j_r1 (j_fz (e := D.int) (a := a1) rfl)) (fun _ _ => rfl) (fun v3 v4 => 
  (js_augI rfl (j_op (j_call cf_foremost (ja_cons (j_fz (e := (eS (eT (eP D.int (eP D.int eU))))) (a := a0) rfl) F_sF (ja_cons (j_ow (eo := (oL D.int)) (a := v3.1) (e := (eL D.int)) rfl) C_sR ja_nil)))) j_int fun v5 => 
  (js_app (e := (eL D.int)) rfl (j_opT (j_listL (e := D.int) (j_ow (eo := (oL D.int)) (a := v5) (e := (eL D.int)) rfl))) fun v6 => 
  (js_wp [4] (js_nil rfl))))) fun v3 => 
  (js_retO (eo := (oL (eL D.int))) (a := v3.2.1) rfl rfl))))
  exact run_res (np := 2) (n := 5) rfl (by decide) rfl nb_T js
set_option maxHeartbeats 4000000 in
theorem cf_is_by : CF f_is_by (fun a : (Str × Int × Unit) => t_is_by a.1 a.2.1) (aCons (sF D.str) (aCons (sF D.int) aNil)) (qN D.bl) := by
  refine cg_F fun a0 => cg_F fun a1 => cg_nil ?_
  have js : JS (kD (qN D.bl)) m_is_by [.fz (D.str a0), .fz (D.int a1)] (b_is_by a0 a1) Empty.elim := by
    unfold b_is_by m_is_by
    exact (js_ifT (E0 := Empty.elim) (j_eq (e := D.str) (e' := D.str) (J.FC (j_fz (e := D.str) (a := a0) rfl)) (J.FC j_str))
  (js_ret (fun a => a) (j_up (j_and (j_vb (j_ge (j_fz (e := D.int) (a := a1) rfl) j_int)) (j_vb (j_le (j_fz (e := D.int) (a := a1) rfl) j_int)))) fun _ _ h => h)
  (js_ret (fun a => a) (j_up (j_and (j_vb (j_eq (e := D.str) (e' := D.str) (J.FC (j_fz (e := D.str) (a := a0) rfl)) (J.FC j_str))) (j_and (j_vb (j_ge (j_fz (e := D.int) (a := a1) rfl) j_int)) (j_vb (j_le (j_fz (e := D.int) (a := a1) rfl) j_int))))) fun _ _ h => h))
  exact run_res (np := 2) (n := 2) rfl (by decide) rfl nb_N js
set_option maxHeartbeats 4000000 in
theorem cf_is_cover : CF f_is_cover (fun a : (Int × (Int × Str × Int × Int × (List (Int × Int × Unit)) × Unit) × Unit) => t_is_cover a.1 a.2.1) (aCons (sF D.int) (aCons (sF (eT (eP D.int (eP D.str (eP D.int (eP D.int (eP (eS (eT (eP D.int (eP D.int eU)))) eU))))))) aNil)) (qN D.bl) := by
  refine cg_F fun a0 => cg_F fun a1 => cg_nil ?_
  have js : JS (kD (qN D.bl)) m_is_cover [.fz (D.int a0), .fz ((eT (eP D.int (eP D.str (eP D.int (eP D.int (eP (eS (eT (eP D.int (eP D.int eU)))) eU)))))) a1), .un, .un, .un, .un, .un, .un, .un] (b_is_cover a0 a1) Empty.elim := by
    unfold b_is_cover m_is_cover
    exact (js_ifT (E0 := Empty.elim) (j_ne (e := D.int) (e' := D.int) (J.FC (j_lenT (e := (eT (eP D.int (eP D.str (eP D.int (eP D.int (eP (eS (eT (eP D.int (eP D.int eU)))) eU))))))) 5 (J.FC (j_fz (e := (eT (eP D.int (eP D.str (eP D.int (eP D.int (eP (eS (eT (eP D.int (eP D.int eU)))) eU))))))) (a := a1) rfl)) (fun _ => rfl))) (J.FC j_int))
  (js_ret (fun a => a) (j_up j_bl) fun _ _ h => h)
  (js_unp (e := (eT (eP D.int (eP D.str (eP D.int (eP D.int (eP (eS (eT (eP D.int (eP D.int eU)))) eU))))))) (Eg := (fun v1 : (Int × Str × Int × Int × (List (Int × Int × Unit)) × Unit) => [.fz (D.int a0), .fz ((eT (eP D.int (eP D.str (eP D.int (eP D.int (eP (eS (eT (eP D.int (eP D.int eU)))) eU)))))) a1), .fz (D.int v1.1), .fz (D.str v1.2.1), .fz (D.int v1.2.2.1), .fz (D.int v1.2.2.2.1), .fz ((eS (eT (eP D.int (eP D.int eU)))) v1.2.2.2.2.1), .un, .un])) (j_fz (e := (eT (eP D.int (eP D.str (eP D.int (eP D.int (eP (eS (eT (eP D.int (eP D.int eU)))) eU))))))) (a := a1) rfl) (fun _ => rfl) fun v1 => 
  (js_ifT (E0 := Empty.elim) (jb_or (j_lt (j_fz (e := D.int) (a := v1.1) rfl) j_int) (jb_or (j_ge (j_fz (e := D.int) (a := v1.1) rfl) (j_fz (e := D.int) (a := a0) rfl)) (jb_or (jb_not (j_bl? (j_op (j_call cf_is_by (ja_cons (j_fz (e := D.str) (a := v1.2.1) rfl) F_sF (ja_cons (j_fz (e := D.int) (a := v1.2.2.1) rfl) F_sF ja_nil)))))) (jb_or (j_lt (j_fz (e := D.int) (a := v1.2.2.2.1) rfl) j_int) (j_gt (j_fz (e := D.int) (a := v1.2.2.2.1) rfl) j_int)))))
  (js_ret (fun a => a) (j_up j_bl) fun _ _ h => h)
  (js_ifT (E0 := Empty.elim) (jb_not (j_bl? (j_op (j_call cf_are_lines (ja_cons (j_fz (e := (eS (eT (eP D.int (eP D.int eU))))) (a := v1.2.2.2.2.1) rfl) F_sF ja_nil)))))
  (js_ret (fun a => a) (j_up j_bl) fun _ _ h => h)
  (js_forT (e := (eT (eP D.int (eP D.int eU)))) (Eg := (fun (v2 : Unit) (v3 : (Int × Int × Unit)) => [.fz (D.int a0), .fz ((eT (eP D.int (eP D.str (eP D.int (eP D.int (eP (eS (eT (eP D.int (eP D.int eU)))) eU)))))) a1), .fz (D.int v1.1), .fz (D.str v1.2.1), .fz (D.int v1.2.2.1), .fz (D.int v1.2.2.2.1), .fz ((eS (eT (eP D.int (eP D.int eU)))) v1.2.2.2.2.1), .fz (D.int v3.1), .fz (D.int v3.2.1)])) (fun v2 : Unit => [.fz (D.int a0), .fz ((eT (eP D.int (eP D.str (eP D.int (eP D.int (eP (eS (eT (eP D.int (eP D.int eU)))) eU)))))) a1), .fz (D.int v1.1), .fz (D.str v1.2.1), .fz (D.int v1.2.2.1), .fz (D.int v1.2.2.2.1), .fz ((eS (eT (eP D.int (eP D.int eU)))) v1.2.2.2.2.1), .un, .un]) () (J.FC (j_fz (e := (eS (eT (eP D.int (eP D.int eU))))) (a := v1.2.2.2.2.1) rfl)) (fun _ _ => rfl) (fun v2 v3 => 
  (js_ifT (E0 := Empty.elim) (jb_or (j_ge (j_fz (e := D.int) (a := v3.1) rfl) (j_fz (e := D.int) (a := a0) rfl)) (j_eq (e := D.int) (e' := D.int) (J.FC (j_fz (e := D.int) (a := v3.1) rfl)) (J.FC (j_fz (e := D.int) (a := v1.1) rfl))))
  (js_ret (fun a => a) (j_up j_bl) fun _ _ h => h)
  (js_wp [7, 8] (js_nil rfl)))) fun v2 => 
  (js_ret (fun a => a) (j_up j_bl) fun _ _ h => h))))))
  exact run_res (np := 2) (n := 9) rfl (by decide) rfl nb_N js
set_option maxHeartbeats 4000000 in
theorem cf_taken : CF f_taken (fun a : (Str × Int × Int × Int × Unit) => t_taken a.1 a.2.1 a.2.2.1 a.2.2.2.1) (aCons (sF D.str) (aCons (sF D.int) (aCons (sF D.int) (aCons (sF D.int) aNil)))) (qN D.int) := by
  refine cg_F fun a0 => cg_F fun a1 => cg_F fun a2 => cg_F fun a3 => cg_nil ?_
  have js : JS (kD (qN D.int)) m_taken [.fz (D.str a0), .fz (D.int a1), .fz (D.int a2), .fz (D.int a3)] (b_taken a0 a1 a2 a3) Empty.elim := by
    unfold b_taken m_taken
    exact (js_ifT (E0 := Empty.elim) (j_eq (e := D.str) (e' := D.str) (J.FC (j_fz (e := D.str) (a := a0) rfl)) (J.FC j_str))
  (js_ret (fun a => a) (j_up (j_min2 (j_fz (e := D.int) (a := a2) rfl) (j_I (j_I (j_fz (e := D.int) (a := a3) rfl) (j_fz (e := D.int) (a := a1) rfl)) j_int))) fun _ _ h => h)
  (js_ret (fun a => a) (j_up (j_min2 (j_fz (e := D.int) (a := a2) rfl) (j_max2 j_int (j_I (j_fz (e := D.int) (a := a3) rfl) (j_fz (e := D.int) (a := a1) rfl))))) fun _ _ h => h))
  exact run_res (np := 4) (n := 4) rfl (by decide) rfl nb_N js
set_option maxHeartbeats 4000000 in
theorem cf_look_houses : CF f_look_houses (fun a : (Int × Unit) => t_look_houses a.1) (aCons (sF D.int) aNil) (qN eN) := by
  refine cg_F fun a0 => cg_nil ?_
  have js : JS (kD (qN eN)) m_look_houses [.fz (D.int a0)] (b_look_houses a0) (fun _ : Unit => [.fz (D.int a0)]) := by
    unfold b_look_houses m_look_houses
    exact (js_ifT (E0 := Empty.elim) (jb_or (j_lt (j_fz (e := D.int) (a := a0) rfl) j_int) (j_gt (j_fz (e := D.int) (a := a0) rfl) j_int))
  (js_raise)
  (js_nil rfl))
  exact run_resN (np := 1) (n := 1) rfl (by decide) rfl js
set_option maxHeartbeats 4000000 in
theorem cf_Table___init__ : CI "Table" f_Table___init__ (fun a : (Int × (List (Int × Str × Int × Int × (List (Int × Int × Unit)) × Unit)) × (List Int) × Unit) => t_Table___init__ a.1 a.2.1 a.2.2.1) (aCons (sF D.int) (aCons (sR (eL (eT (eP D.int (eP D.str (eP D.int (eP D.int (eP (eS (eT (eP D.int (eP D.int eU)))) eU)))))))) (aCons (sR (eL D.int)) aNil))) o_Table := by
  refine cg_F fun a1 => cg_R fun a2 s2 h2 => cg_R fun a3 s3 h3 => cg_nil ?_
  have js : JS (kD (fun (_ : Unit) _ => False)) m_Table___init__ [.mu (.obj "Table" []), .fz (D.int a1), s2, s3, .un, .un] (b_Table___init__ a1 a2 a3) (fun v : YTable => [.mu (o_Table v), .fz (D.int a1), s2, s3, .un, .un]) := by
    unfold b_Table___init__ m_Table___init__
    exact (js_exp (j_call cf_look_houses (ja_cons (j_fz (e := D.int) (a := a1) rfl) F_sF ja_nil)) fun _ => 
  (js_ifT (E0 := Empty.elim) (j_gt (j_lenL (e := (eT (eP D.int (eP D.str (eP D.int (eP D.int (eP (eS (eT (eP D.int (eP D.int eU)))) eU))))))) (J.AC (j_rd h2 rfl))) j_int)
  (js_raise)
  (js_forL (e := (eT (eP D.int (eP D.str (eP D.int (eP D.int (eP (eS (eT (eP D.int (eP D.int eU)))) eU))))))) (Eg := (fun (v1 : Unit) (v2 : (Int × Str × Int × Int × (List (Int × Int × Unit)) × Unit)) => [.mu (.obj "Table" []), .fz (D.int a1), s2, s3, .fz ((eT (eP D.int (eP D.str (eP D.int (eP D.int (eP (eS (eT (eP D.int (eP D.int eU)))) eU)))))) v2), .un])) (fun v1 : Unit => [.mu (.obj "Table" []), .fz (D.int a1), s2, s3, .un, .un]) () (j_rd h2 rfl) (fun _ _ => rfl) (fun v1 v2 => 
  (js_ifT (E0 := Empty.elim) (jb_not (j_bl? (j_op (j_call cf_is_cover (ja_cons (j_fz (e := D.int) (a := a1) rfl) F_sF (ja_cons (j_fz (e := (eT (eP D.int (eP D.str (eP D.int (eP D.int (eP (eS (eT (eP D.int (eP D.int eU)))) eU))))))) (a := v2) rfl) F_sF ja_nil))))))
  (js_raise)
  (js_wp [4] (js_nil rfl)))) fun v1 => 
  (js_ifT (E0 := Empty.elim) (j_ne (e := D.int) (e' := D.int) (J.FC (j_lenL (e := D.int) (J.AC (j_rd h3 rfl)))) (J.FC (j_fz (e := D.int) (a := a1) rfl)))
  (js_raise)
  (js_forL (e := D.int) (Eg := (fun (v3 : Unit) (v4 : Int) => [.mu (.obj "Table" []), .fz (D.int a1), s2, s3, .un, .fz (D.int v4)])) (fun v3 : Unit => [.mu (.obj "Table" []), .fz (D.int a1), s2, s3, .un, .un]) () (j_rd h3 rfl) (fun _ _ => rfl) (fun v3 v4 => 
  (js_ifT (E0 := Empty.elim) (jb_or (j_lt (j_fz (e := D.int) (a := v4) rfl) j_int) (j_gt (j_fz (e := D.int) (a := v4) rfl) j_int))
  (js_raise)
  (js_wp [5] (js_nil rfl)))) fun v3 => 
  (js_att (e := D.int) (fs' := fun v5 => [(("size" : Str), .fz (D.int v5))]) rfl (Nat.le_of_ble_eq_true rfl) (j_fz (e := D.int) (a := a1) rfl) (fun _ => put_Table_size _) fun v5 => 
  (js_att (e := (eL (eT (eP D.int (eP D.str (eP D.int (eP D.int (eP (eS (eT (eP D.int (eP D.int eU)))) eU)))))))) (fs' := fun v6 => [(("size" : Str), .fz (D.int v5)), (("rows" : Str), .fz ((eL (eT (eP D.int (eP D.str (eP D.int (eP D.int (eP (eS (eT (eP D.int (eP D.int eU)))) eU))))))) v6))]) rfl (Nat.le_of_ble_eq_true rfl) (j_opT (j_listL (e := (eT (eP D.int (eP D.str (eP D.int (eP D.int (eP (eS (eT (eP D.int (eP D.int eU)))) eU))))))) (J.AC (j_rd h2 rfl)))) (fun _ => put_Table_rows _ _) fun v6 => 
  (js_att (e := (eL D.int)) (fs' := fun v7 => [(("size" : Str), .fz (D.int v5)), (("rows" : Str), .fz ((eL (eT (eP D.int (eP D.str (eP D.int (eP D.int (eP (eS (eT (eP D.int (eP D.int eU)))) eU))))))) v6)), (("befell" : Str), .fz ((eL D.int) v7))]) rfl (Nat.le_of_ble_eq_true rfl) (j_opT (j_listL (e := D.int) (J.AC (j_rd h3 rfl)))) (fun _ => put_Table_befell _ _ _) fun v7 => 
  (js_att (e := (eL (eL (eL D.int)))) (fs' := fun v9 => [(("size" : Str), .fz (D.int v5)), (("rows" : Str), .fz ((eL (eT (eP D.int (eP D.str (eP D.int (eP D.int (eP (eS (eT (eP D.int (eP D.int eU)))) eU))))))) v6)), (("befell" : Str), .fz ((eL D.int) v7)), (("splits" : Str), .fz ((eL (eL (eL D.int))) v9))]) rfl (Nat.le_of_ble_eq_true rfl) (j_opT (j_lcL (e := (eT (eP D.int (eP D.str (eP D.int (eP D.int (eP (eS (eT (eP D.int (eP D.int eU)))) eU))))))) (j_rd h2 rfl) (fun v8 => j_yes) (fun v8 => (j_opT (j_call cf_grown_parts (ja_cons (j_ixT (e' := (eS (eT (eP D.int (eP D.int eU))))) (fun x : (Int × Str × Int × Int × (List (Int × Int × Unit)) × Unit) => x.2.2.2.2.1) (4) (J.FC (j_fz (e := (eT (eP D.int (eP D.str (eP D.int (eP D.int (eP (eS (eT (eP D.int (eP D.int eU)))) eU))))))) (a := v8) rfl)) (fun _ => rfl) (fun _ => rfl)) F_sF (ja_cons (j_ixT (e' := D.int) (fun x : (Int × Str × Int × Int × (List (Int × Int × Unit)) × Unit) => x.2.2.2.1) (3) (J.FC (j_fz (e := (eT (eP D.int (eP D.str (eP D.int (eP D.int (eP (eS (eT (eP D.int (eP D.int eU)))) eU))))))) (a := v8) rfl)) (fun _ => rfl) (fun _ => rfl)) F_sF ja_nil))))))) (fun _ => put_Table_splits _ _ _ _) fun v9 => 
  (js_nil rfl))))))))))
  exact run_resI (np := 4) (n := 6) (eo := o_Table) rfl (by decide) rfl js fun _ => rfl
set_option maxHeartbeats 4000000 in
theorem cf_Table_mosts : CF f_Table_mosts (fun a : (YTable × Unit) => t_Table_mosts a.1) (aCons (sR e_Table) aNil) (qT (oL D.int)) := by
  refine cg_R fun a0 s0 h0 => cg_nil ?_
  have js : JS (kD (qT (oL D.int))) m_Table_mosts [s0, .un] (b_Table_mosts a0) Empty.elim := by
    unfold b_Table_mosts m_Table_mosts
    exact (js_ret (fun a => a) (j_lcL (e := (eT (eP D.int (eP D.str (eP D.int (eP D.int (eP (eS (eT (eP D.int (eP D.int eU)))) eU))))))) (j_attA (e' := (eL (eT (eP D.int (eP D.str (eP D.int (eP D.int (eP (eS (eT (eP D.int (eP D.int eU)))) eU)))))))) (fun x : YTable => x.rows) (j_rd h0 rfl) at_Table_rows) (fun v1 => j_yes) (fun v1 => (j_ixT (e' := D.int) (fun x : (Int × Str × Int × Int × (List (Int × Int × Unit)) × Unit) => x.2.2.2.1) (3) (J.FC (j_fz (e := (eT (eP D.int (eP D.str (eP D.int (eP D.int (eP (eS (eT (eP D.int (eP D.int eU)))) eU))))))) (a := v1) rfl)) (fun _ => rfl) (fun _ => rfl)))) fun _ _ h => h)
  exact run_res (np := 1) (n := 2) rfl (by decide) rfl nb_T js
set_option maxHeartbeats 4000000 in
theorem cf_Table_loads : CF f_Table_loads (fun a : (YTable × (List Int) × Unit) => t_Table_loads a.1 a.2.1) (aCons (sR e_Table) (aCons (sR (eL D.int)) aNil)) (qT (oL D.int)) := by
  refine cg_R fun a0 s0 h0 => cg_R fun a1 s1 h1 => cg_nil ?_
  have js : JS (kD (qT (oL D.int))) m_Table_loads [s0, s1, .un, .un, .un, .un, .un] (b_Table_loads a0 a1) Empty.elim := by
    unfold b_Table_loads m_Table_loads
    exact (js_own (j_listL (e := D.int) (J.AC (j_attA (e' := (eL D.int)) (fun x : YTable => x.befell) (j_rd h0 rfl) at_Table_befell))) fun v1 => 
  (js_forR (Eg := (fun (v2 : ((List Int) × Unit)) (v3 : Int) => [s0, s1, .ow ((oL D.int) v2.1), .fz (D.int v3), .un, .un, .un])) (fun v2 : ((List Int) × Unit) => [s0, s1, .ow ((oL D.int) v2.1), .un, .un, .un, .un]) (v1, ()) (j_r1 (j_lenL (e := (eT (eP D.int (eP D.str (eP D.int (eP D.int (eP (eS (eT (eP D.int (eP D.int eU)))) eU))))))) (J.AC (j_attA (e' := (eL (eT (eP D.int (eP D.str (eP D.int (eP D.int (eP (eS (eT (eP D.int (eP D.int eU)))) eU)))))))) (fun x : YTable => x.rows) (j_rd h0 rfl) at_Table_rows)))) (fun _ _ => rfl) (fun v2 v3 => 
  (js_set (e := (eL D.int)) (j_ixL (J.FC (j_ixL (J.AC (j_attA (e' := (eL (eL (eL D.int)))) (fun x : YTable => x.splits) (j_rd h0 rfl) at_Table_splits)) (j_fz (e := D.int) (a := v3) rfl))) (j_ixL (J.AC (j_rd h1 rfl)) (j_fz (e := D.int) (a := v3) rfl))) fun v4 => 
  (js_set (e := (eS (eT (eP D.int (eP D.int eU))))) (j_ixT (e' := (eS (eT (eP D.int (eP D.int eU))))) (fun x : (Int × Str × Int × Int × (List (Int × Int × Unit)) × Unit) => x.2.2.2.2.1) (4) (J.FC (j_ixL (J.AC (j_attA (e' := (eL (eT (eP D.int (eP D.str (eP D.int (eP D.int (eP (eS (eT (eP D.int (eP D.int eU)))) eU)))))))) (fun x : YTable => x.rows) (j_rd h0 rfl) at_Table_rows)) (j_fz (e := D.int) (a := v3) rfl))) (fun _ => rfl) (fun _ => rfl)) fun v5 => 
  (js_forR (Eg := (fun (v6 : ((List Int) × Unit)) (v7 : Int) => [s0, s1, .ow ((oL D.int) v6.1), .fz (D.int v3), .fz ((eL D.int) v4), .fz ((eS (eT (eP D.int (eP D.int eU)))) v5), .fz (D.int v7)])) (fun v6 : ((List Int) × Unit) => [s0, s1, .ow ((oL D.int) v6.1), .fz (D.int v3), .fz ((eL D.int) v4), .fz ((eS (eT (eP D.int (eP D.int eU)))) v5), .un]) (v2.1, ()) (j_r1 (j_lenS (e := (eT (eP D.int (eP D.int eU)))) (J.FC (j_fz (e := (eS (eT (eP D.int (eP D.int eU))))) (a := v5) rfl)))) (fun _ _ => rfl) (fun v6 v7 => 
  (js_augI rfl (j_ixT (e' := D.int) (fun x : (Int × Int × Unit) => x.1) (0) (J.FC (j_ixS (J.FC (j_fz (e := (eS (eT (eP D.int (eP D.int eU))))) (a := v5) rfl)) (j_fz (e := D.int) (a := v7) rfl))) (fun _ => rfl) (fun _ => rfl)) (j_ixL (J.FC (j_fz (e := (eL D.int)) (a := v4) rfl)) (j_fz (e := D.int) (a := v7) rfl)) fun v8 => 
  (js_wp [6] (js_nil rfl)))) fun v6 => 
  (js_wp [3, 4, 5] (js_nil rfl)))))) fun v2 => 
  (js_retO (eo := (oL D.int)) (a := v2.1) rfl rfl)))
  exact run_res (np := 2) (n := 7) rfl (by decide) rfl nb_T js
set_option maxHeartbeats 4000000 in
theorem cf_Table_passed : CF f_Table_passed (fun a : (YTable × (List Int) × Unit) => t_Table_passed a.1 a.2.1) (aCons (sR e_Table) (aCons (sR (eL D.int)) aNil)) (qN (eT (eP (eL D.int) (eP (eL D.int) eU)))) := by
  refine cg_R fun a0 s0 h0 => cg_R fun a1 s1 h1 => cg_nil ?_
  have js : JS (kD (qN (eT (eP (eL D.int) (eP (eL D.int) eU))))) m_Table_passed [s0, s1, .un, .un, .un, .un, .un, .un, .un, .un] (b_Table_passed a0 a1) Empty.elim := by
    unfold b_Table_passed m_Table_passed
    exact (js_own (j_meth cf_Table_loads (J.AC (j_rd h0 rfl)) C_sR (isO_C io_Table_loads) (ja_cons (J.AC (j_rd h1 rfl)) C_sR ja_nil)) fun v1 => 
  (js_own (j_lst (jl_nil (e := D.int))) fun v2 => 
  (js_forL (e := (eT (eP D.int (eP D.str (eP D.int (eP D.int (eP (eS (eT (eP D.int (eP D.int eU)))) eU))))))) (Eg := (fun (v3 : ((List Int) × (List Int) × Unit)) (v4 : (Int × Str × Int × Int × (List (Int × Int × Unit)) × Unit)) => [s0, s1, .ow ((oL D.int) v3.1), .ow ((oL D.int) v3.2.1), .fz (D.int v4.1), .fz (D.str v4.2.1), .fz (D.int v4.2.2.1), .fz (D.int v4.2.2.2.1), .fz ((eS (eT (eP D.int (eP D.int eU)))) v4.2.2.2.2.1), .un])) (fun v3 : ((List Int) × (List Int) × Unit) => [s0, s1, .ow ((oL D.int) v3.1), .ow ((oL D.int) v3.2.1), .un, .un, .un, .un, .un, .un]) (v1, v2, ()) (j_attA (e' := (eL (eT (eP D.int (eP D.str (eP D.int (eP D.int (eP (eS (eT (eP D.int (eP D.int eU)))) eU)))))))) (fun x : YTable => x.rows) (j_rd h0 rfl) at_Table_rows) (fun _ _ => rfl) (fun v3 v4 => 
  (js_set (e := D.int) (j_op (j_call cf_taken (ja_cons (j_fz (e := D.str) (a := v4.2.1) rfl) F_sF (ja_cons (j_fz (e := D.int) (a := v4.2.2.1) rfl) F_sF (ja_cons (j_fz (e := D.int) (a := v4.2.2.2.1) rfl) F_sF (ja_cons (j_ixL (j_ow (eo := (oL D.int)) (a := v3.1) (e := (eL D.int)) rfl) (j_fz (e := D.int) (a := v4.1) rfl)) F_sF ja_nil)))))) fun v5 => 
  (js_augI rfl (j_fz (e := D.int) (a := v4.1) rfl) (j_fz (e := D.int) (a := v5) rfl) fun v6 => 
  (js_app (e := D.int) rfl (j_fz (e := D.int) (a := v5) rfl) fun v7 => 
  (js_wp [4, 5, 6, 7, 8, 9] (js_nil rfl)))))) fun v3 => 
  (js_cold (eo := (oL D.int)) (e := (eL D.int)) rfl (js_cold (eo := (oL D.int)) (e := (eL D.int)) rfl (js_ret (fun a => a) (j_up (j_tup (jt_cons (j_fz (e := (eL D.int)) (a := v3.2.1) rfl) (jt_cons (j_fz (e := (eL D.int)) (a := v3.1) rfl) jt_nil)))) fun _ _ h => h))))))
  exact run_res (np := 2) (n := 10) rfl (by decide) rfl nb_N js
set_option maxHeartbeats 4000000 in
theorem cf_look_account : CF f_look_account (fun a : (YTable × (List Int) × Unit) => t_look_account a.1 a.2.1) (aCons (sR e_Table) (aCons (sR (eL D.int)) aNil)) (qN eN) := by
  refine cg_R fun a0 s0 h0 => cg_R fun a1 s1 h1 => cg_nil ?_
  have js : JS (kD (qN eN)) m_look_account [s0, s1, .un, .un] (b_look_account a0 a1) (fun _ : Unit => [s0, s1, .un, .un]) := by
    unfold b_look_account m_look_account
    exact (js_set (e := (eL D.int)) (j_opT (j_meth cf_Table_mosts (J.AC (j_rd h0 rfl)) C_sR (isO_C io_Table_mosts) ja_nil)) fun v1 => 
  (js_ifT (E0 := Empty.elim) (j_ne (e := D.int) (e' := D.int) (J.FC (j_lenL (e := D.int) (J.AC (j_rd h1 rfl)))) (J.FC (j_lenL (e := D.int) (J.FC (j_fz (e := (eL D.int)) (a := v1) rfl)))))
  (js_raise)
  (js_forR (Eg := (fun (v2 : Unit) (v3 : Int) => [s0, s1, .fz ((eL D.int) v1), .fz (D.int v3)])) (fun v2 : Unit => [s0, s1, .fz ((eL D.int) v1), .un]) () (j_r1 (j_lenL (e := D.int) (J.FC (j_fz (e := (eL D.int)) (a := v1) rfl)))) (fun _ _ => rfl) (fun v2 v3 => 
  (js_ifT (E0 := Empty.elim) (jb_or (j_lt (j_ixL (J.AC (j_rd h1 rfl)) (j_fz (e := D.int) (a := v3) rfl)) j_int) (j_gt (j_ixL (J.AC (j_rd h1 rfl)) (j_fz (e := D.int) (a := v3) rfl)) (j_ixL (J.FC (j_fz (e := (eL D.int)) (a := v1) rfl)) (j_fz (e := D.int) (a := v3) rfl))))
  (js_raise)
  (js_wp [3] (js_nil rfl)))) fun v2 => 
  (js_wp [2] (js_nil rfl)))))
  exact run_resN (np := 2) (n := 4) rfl (by decide) rfl js
set_option maxHeartbeats 4000000 in
theorem cf_burdens : CF f_burdens (fun a : (YTable × (List Int) × Unit) => t_burdens a.1 a.2.1) (aCons (sR e_Table) (aCons (sR (eL D.int)) aNil)) (qT (oL D.int)) := by
  refine cg_R fun a0 s0 h0 => cg_R fun a1 s1 h1 => cg_nil ?_
  have js : JS (kD (qT (oL D.int))) m_burdens [s0, s1] (b_burdens a0 a1) Empty.elim := by
    unfold b_burdens m_burdens
    exact (js_exp (j_call cf_look_account (ja_cons (J.AC (j_rd h0 rfl)) C_sR (ja_cons (J.AC (j_rd h1 rfl)) C_sR ja_nil))) fun _ => 
  (js_ret (fun a => a) (j_meth cf_Table_loads (J.AC (j_rd h0 rfl)) C_sR (isO_C io_Table_loads) (ja_cons (J.AC (j_rd h1 rfl)) C_sR ja_nil)) fun _ _ h => h))
  exact run_res (np := 2) (n := 2) rfl (by decide) rfl nb_T js
set_option maxHeartbeats 4000000 in
theorem cf_asked : CF f_asked (fun a : (YTable × (List Int) × Unit) => t_asked a.1 a.2.1) (aCons (sR e_Table) (aCons (sR (eL D.int)) aNil)) (qN (eL D.int)) := by
  refine cg_R fun a0 s0 h0 => cg_R fun a1 s1 h1 => cg_nil ?_
  have js : JS (kD (qN (eL D.int))) m_asked [s0, s1] (b_asked a0 a1) Empty.elim := by
    unfold b_asked m_asked
    exact (js_exp (j_call cf_look_account (ja_cons (J.AC (j_rd h0 rfl)) C_sR (ja_cons (J.AC (j_rd h1 rfl)) C_sR ja_nil))) fun _ => 
  (js_ret (fun a => a) (j_up (j_ixT (e' := (eL D.int)) (fun x : ((List Int) × (List Int) × Unit) => x.1) (0) (J.FC (j_op (j_meth cf_Table_passed (J.AC (j_rd h0 rfl)) C_sR (isO_C io_Table_passed) (ja_cons (J.AC (j_rd h1 rfl)) C_sR ja_nil)))) (fun _ => rfl) (fun _ => rfl))) fun _ _ h => h))
  exact run_res (np := 2) (n := 2) rfl (by decide) rfl nb_N js
set_option maxHeartbeats 4000000 in
theorem cf_settled : CF f_settled (fun a : (YTable × (List Int) × Unit) => t_settled a.1 a.2.1) (aCons (sR e_Table) (aCons (sR (eL D.int)) aNil)) (qN (eL D.int)) := by
  refine cg_R fun a0 s0 h0 => cg_R fun a1 s1 h1 => cg_nil ?_
  have js : JS (kD (qN (eL D.int))) m_settled [s0, s1, .un, .un] (b_settled a0 a1) Empty.elim := by
    unfold b_settled m_settled
    exact (js_set (e := (eL D.int)) (j_opT (j_listL (e := D.int) (J.AC (j_rd h1 rfl)))) fun v1 => 
  (js_set (e := (eL D.int)) (j_ixT (e' := (eL D.int)) (fun x : ((List Int) × (List Int) × Unit) => x.1) (0) (J.FC (j_op (j_meth cf_Table_passed (J.AC (j_rd h0 rfl)) C_sR (isO_C io_Table_passed) (ja_cons (J.FC (j_fz (e := (eL D.int)) (a := v1) rfl)) C_sR ja_nil)))) (fun _ => rfl) (fun _ => rfl)) fun v2 => 
  (js_wh (fun v3 : ((List Int) × (List Int) × Unit) => [s0, s1, .fz ((eL D.int) v3.1), .fz ((eL D.int) v3.2.1)]) (v1, v2, ()) (fun v3 => (j_ne (e := (eL D.int)) (e' := (eL D.int)) (J.FC (j_fz (e := (eL D.int)) (a := v3.2.1) rfl)) (J.FC (j_fz (e := (eL D.int)) (a := v3.1) rfl)))) (fun v3 => 
  (js_set (e := (eL D.int)) (j_fz (e := (eL D.int)) (a := v3.2.1) rfl) fun v4 => 
  (js_set (e := (eL D.int)) (j_ixT (e' := (eL D.int)) (fun x : ((List Int) × (List Int) × Unit) => x.1) (0) (J.FC (j_op (j_meth cf_Table_passed (J.AC (j_rd h0 rfl)) C_sR (isO_C io_Table_passed) (ja_cons (J.FC (j_fz (e := (eL D.int)) (a := v4) rfl)) C_sR ja_nil)))) (fun _ => rfl) (fun _ => rfl)) fun v5 => 
  (js_nil rfl)))) fun v3 => 
  (js_ret (fun a => a) (j_up (j_fz (e := (eL D.int)) (a := v3.1) rfl)) fun _ _ h => h))))
  exact run_res (np := 2) (n := 4) rfl (by decide) rfl nb_N js
set_option maxHeartbeats 4000000 in
theorem cf_shows : CF f_shows (fun a : (YTable × (List (Int × Int × Unit)) × (List Int) × Unit) => t_shows a.1 a.2.1 a.2.2.1) (aCons (sR e_Table) (aCons (sR (eL (eT (eP D.int (eP D.int eU))))) (aCons (sR (eL D.int)) aNil))) (qN D.bl) := by
  refine cg_R fun a0 s0 h0 => cg_R fun a1 s1 h1 => cg_R fun a2 s2 h2 => cg_nil ?_
  have js : JS (kD (qN D.bl)) m_shows [s0, s1, s2, .un, .un, .un] (b_shows a0 a1 a2) Empty.elim := by
    unfold b_shows m_shows
    exact (js_exp (j_call cf_look_account (ja_cons (J.AC (j_rd h0 rfl)) C_sR (ja_cons (J.AC (j_rd h2 rfl)) C_sR ja_nil))) fun _ => 
  (js_own (j_rep (J.FC (j_opT (j_lst (jl_cons j_int (jl_nil (e := D.int)))))) (j_lenL (e := D.int) (J.FC (j_opT (j_meth cf_Table_mosts (J.AC (j_rd h0 rfl)) C_sR (isO_C io_Table_mosts) ja_nil))))) fun v1 => 
  (js_forL (e := (eT (eP D.int (eP D.int eU)))) (Eg := (fun (v2 : ((List Int) × Unit)) (v3 : (Int × Int × Unit)) => [s0, s1, s2, .ow ((oL D.int) v2.1), .fz (D.int v3.1), .fz (D.int v3.2.1)])) (fun v2 : ((List Int) × Unit) => [s0, s1, s2, .ow ((oL D.int) v2.1), .un, .un]) (v1, ()) (j_rd h1 rfl) (fun _ _ => rfl) (fun v2 v3 => 
  (js_ifT (E0 := Empty.elim) (jb_or (j_lt (j_fz (e := D.int) (a := v3.1) rfl) j_int) (jb_or (j_ge (j_fz (e := D.int) (a := v3.1) rfl) (j_lenL (e := D.int) (j_ow (eo := (oL D.int)) (a := v2.1) (e := (eL D.int)) rfl))) (j_le (j_fz (e := D.int) (a := v3.2.1) rfl) (j_ixL (j_ow (eo := (oL D.int)) (a := v2.1) (e := (eL D.int)) rfl) (j_fz (e := D.int) (a := v3.1) rfl)))))
  (js_ret (fun a => a) (j_up j_bl) fun _ _ h => h)
  (js_ifT (E0 := Empty.elim) (j_gt (j_fz (e := D.int) (a := v3.2.1) rfl) (j_ixL (J.FC (j_ixT (e' := (eL D.int)) (fun x : ((List Int) × (List Int) × Unit) => x.1) (0) (J.FC (j_op (j_meth cf_Table_passed (J.AC (j_rd h0 rfl)) C_sR (isO_C io_Table_passed) (ja_cons (j_ow (eo := (oL D.int)) (a := v2.1) (e := (eL D.int)) rfl) C_sR ja_nil)))) (fun _ => rfl) (fun _ => rfl))) (j_fz (e := D.int) (a := v3.1) rfl)))
  (js_ret (fun a => a) (j_up j_bl) fun _ _ h => h)
  (js_it (e := D.int) rfl (j_fz (e := D.int) (a := v3.1) rfl) (j_fz (e := D.int) (a := v3.2.1) rfl) fun v4 => 
  (js_wp [4, 5] (js_nil rfl)))))) fun v2 => 
  (js_ret (fun a => a) (j_up (j_vb (j_eq (e := (eL D.int)) (e' := (eL D.int)) (j_ow (eo := (oL D.int)) (a := v2.1) (e := (eL D.int)) rfl) (J.FC (j_opT (j_listL (e := D.int) (J.AC (j_rd h2 rfl)))))))) fun _ _ h => h))))
  exact run_res (np := 3) (n := 6) rfl (by decide) rfl nb_N js
set_option maxHeartbeats 4000000 in
theorem cf_agrees : CF f_agrees (fun a : (YTable × (List Int) × Unit) => t_agrees a.1 a.2.1) (aCons (sR e_Table) (aCons (sR (eL D.int)) aNil)) (qN D.bl) := by
  refine cg_R fun a0 s0 h0 => cg_R fun a1 s1 h1 => cg_nil ?_
  have js : JS (kD (qN D.bl)) m_agrees [s0, s1] (b_agrees a0 a1) Empty.elim := by
    unfold b_agrees m_agrees
    exact (js_ret (fun a => a) (j_up (j_vb (j_eq (e := (eL D.int)) (e' := (eL D.int)) (J.FC (j_op (j_call cf_asked (ja_cons (J.AC (j_rd h0 rfl)) C_sR (ja_cons (J.AC (j_rd h1 rfl)) C_sR ja_nil))))) (J.FC (j_opT (j_listL (e := D.int) (J.AC (j_rd h1 rfl)))))))) fun _ _ h => h)
  exact run_res (np := 2) (n := 2) rfl (by decide) rfl nb_N js
set_option maxHeartbeats 4000000 in
theorem cf_lies_below : CF f_lies_below (fun a : ((List Int) × (List Int) × Unit) => t_lies_below a.1 a.2.1) (aCons (sR (eL D.int)) (aCons (sR (eL D.int)) aNil)) (qN D.bl) := by
  refine cg_R fun a0 s0 h0 => cg_R fun a1 s1 h1 => cg_nil ?_
  have js : JS (kD (qN D.bl)) m_lies_below [s0, s1, .un] (b_lies_below a0 a1) Empty.elim := by
    unfold b_lies_below m_lies_below
    exact (js_forR (Eg := (fun (v1 : Unit) (v2 : Int) => [s0, s1, .fz (D.int v2)])) (fun v1 : Unit => [s0, s1, .un]) () (j_r1 (j_lenL (e := D.int) (J.AC (j_rd h0 rfl)))) (fun _ _ => rfl) (fun v1 v2 => 
  (js_ifT (E0 := Empty.elim) (j_gt (j_ixL (J.AC (j_rd h0 rfl)) (j_fz (e := D.int) (a := v2) rfl)) (j_ixL (J.AC (j_rd h1 rfl)) (j_fz (e := D.int) (a := v2) rfl)))
  (js_ret (fun a => a) (j_up j_bl) fun _ _ h => h)
  (js_wp [2] (js_nil rfl)))) fun v1 => 
  (js_ret (fun a => a) (j_up j_bl) fun _ _ h => h))
  exact run_res (np := 2) (n := 3) rfl (by decide) rfl nb_N js
set_option maxHeartbeats 4000000 in
theorem cf_backed : CF f_backed (fun a : (YTable × (List Int) × Unit) => t_backed a.1 a.2.1) (aCons (sR e_Table) (aCons (sR (eL D.int)) aNil)) (qN D.bl) := by
  refine cg_R fun a0 s0 h0 => cg_R fun a1 s1 h1 => cg_nil ?_
  have js : JS (kD (qN D.bl)) m_backed [s0, s1] (b_backed a0 a1) Empty.elim := by
    unfold b_backed m_backed
    exact (js_ret (fun a => a) (j_call cf_lies_below (ja_cons (J.AC (j_rd h1 rfl)) C_sR (ja_cons (J.FC (j_op (j_call cf_asked (ja_cons (J.AC (j_rd h0 rfl)) C_sR (ja_cons (J.AC (j_rd h1 rfl)) C_sR ja_nil))))) C_sR ja_nil))) fun _ _ h => h)
  exact run_res (np := 2) (n := 2) rfl (by decide) rfl nb_N js
set_option maxHeartbeats 4000000 in
theorem cf_enough : CF f_enough (fun a : (YTable × (List Int) × Unit) => t_enough a.1 a.2.1) (aCons (sR e_Table) (aCons (sR (eL D.int)) aNil)) (qN D.bl) := by
  refine cg_R fun a0 s0 h0 => cg_R fun a1 s1 h1 => cg_nil ?_
  have js : JS (kD (qN D.bl)) m_enough [s0, s1] (b_enough a0 a1) Empty.elim := by
    unfold b_enough m_enough
    exact (js_ret (fun a => a) (j_call cf_lies_below (ja_cons (J.FC (j_op (j_call cf_asked (ja_cons (J.AC (j_rd h0 rfl)) C_sR (ja_cons (J.AC (j_rd h1 rfl)) C_sR ja_nil))))) C_sR (ja_cons (J.AC (j_rd h1 rfl)) C_sR ja_nil))) fun _ _ h => h)
  exact run_res (np := 2) (n := 2) rfl (by decide) rfl nb_N js
set_option maxHeartbeats 4000000 in
theorem cf_above : CF f_above (fun a : (YTable × (List Int) × Unit) => t_above a.1 a.2.1) (aCons (sR e_Table) (aCons (sR (eL D.int)) aNil)) (qN (eL D.int)) := by
  refine cg_R fun a0 s0 h0 => cg_R fun a1 s1 h1 => cg_nil ?_
  have js : JS (kD (qN (eL D.int))) m_above [s0, s1] (b_above a0 a1) Empty.elim := by
    unfold b_above m_above
    exact (js_ifT (E0 := Empty.elim) (jb_not (j_bl? (j_op (j_call cf_backed (ja_cons (J.AC (j_rd h0 rfl)) C_sR (ja_cons (J.AC (j_rd h1 rfl)) C_sR ja_nil))))))
  (js_raise)
  (js_ret (fun a => a) (j_call cf_settled (ja_cons (J.AC (j_rd h0 rfl)) C_sR (ja_cons (J.AC (j_rd h1 rfl)) C_sR ja_nil))) fun _ _ h => h))
  exact run_res (np := 2) (n := 2) rfl (by decide) rfl nb_N js
set_option maxHeartbeats 4000000 in
theorem cf_below : CF f_below (fun a : (YTable × (List Int) × Unit) => t_below a.1 a.2.1) (aCons (sR e_Table) (aCons (sR (eL D.int)) aNil)) (qN (eL D.int)) := by
  refine cg_R fun a0 s0 h0 => cg_R fun a1 s1 h1 => cg_nil ?_
  have js : JS (kD (qN (eL D.int))) m_below [s0, s1] (b_below a0 a1) Empty.elim := by
    unfold b_below m_below
    exact (js_ifT (E0 := Empty.elim) (jb_not (j_bl? (j_op (j_call cf_enough (ja_cons (J.AC (j_rd h0 rfl)) C_sR (ja_cons (J.AC (j_rd h1 rfl)) C_sR ja_nil))))))
  (js_raise)
  (js_ret (fun a => a) (j_call cf_settled (ja_cons (J.AC (j_rd h0 rfl)) C_sR (ja_cons (J.AC (j_rd h1 rfl)) C_sR ja_nil))) fun _ _ h => h))
  exact run_res (np := 2) (n := 2) rfl (by decide) rfl nb_N js
set_option maxHeartbeats 4000000 in
theorem cf_look_both : CF f_look_both (fun a : (YTable × (List Int) × (List Int) × Unit) => t_look_both a.1 a.2.1 a.2.2.1) (aCons (sR e_Table) (aCons (sR (eL D.int)) (aCons (sR (eL D.int)) aNil))) (qN eN) := by
  refine cg_R fun a0 s0 h0 => cg_R fun a1 s1 h1 => cg_R fun a2 s2 h2 => cg_nil ?_
  have js : JS (kD (qN eN)) m_look_both [s0, s1, s2, .un] (b_look_both a0 a1 a2) (fun _ : Unit => [s0, s1, s2, .un]) := by
    unfold b_look_both m_look_both
    exact (js_set (e := (eL D.bl)) (j_opT (j_lst (jl_cons (j_op (j_call cf_agrees (ja_cons (J.AC (j_rd h0 rfl)) C_sR (ja_cons (J.AC (j_rd h1 rfl)) C_sR ja_nil)))) (jl_cons (j_op (j_call cf_agrees (ja_cons (J.AC (j_rd h0 rfl)) C_sR (ja_cons (J.AC (j_rd h2 rfl)) C_sR ja_nil)))) (jl_nil (e := D.bl)))))) fun v1 => 
  (js_ifT (E0 := Empty.elim) (j_in (e := D.bl) (e' := (eL D.bl)) j_bl (J.FC (j_fz (e := (eL D.bl)) (a := v1) rfl)))
  (js_raise)
  (js_wp [3] (js_nil rfl))))
  exact run_resN (np := 3) (n := 4) rfl (by decide) rfl js
set_option maxHeartbeats 4000000 in
theorem cf_joint : CF f_joint (fun a : (YTable × (List Int) × (List Int) × Unit) => t_joint a.1 a.2.1 a.2.2.1) (aCons (sR e_Table) (aCons (sR (eL D.int)) (aCons (sR (eL D.int)) aNil))) (qN (eL D.int)) := by
  refine cg_R fun a0 s0 h0 => cg_R fun a1 s1 h1 => cg_R fun a2 s2 h2 => cg_nil ?_
  have js : JS (kD (qN (eL D.int))) m_joint [s0, s1, s2, .un] (b_joint a0 a1 a2) Empty.elim := by
    unfold b_joint m_joint
    exact (js_exp (j_call cf_look_both (ja_cons (J.AC (j_rd h0 rfl)) C_sR (ja_cons (J.AC (j_rd h1 rfl)) C_sR (ja_cons (J.AC (j_rd h2 rfl)) C_sR ja_nil)))) fun _ => 
  (js_ret (fun a => a) (j_call cf_settled (ja_cons (J.AC (j_rd h0 rfl)) C_sR (ja_cons (J.FC (j_opT (j_lcR (j_r1 (j_lenL (e := D.int) (J.AC (j_rd h1 rfl)))) (fun v1 => j_yes) (fun v1 => (j_max2 (j_ixL (J.AC (j_rd h1 rfl)) (j_fz (e := D.int) (a := v1) rfl)) (j_ixL (J.AC (j_rd h2 rfl)) (j_fz (e := D.int) (a := v1) rfl))))))) C_sR ja_nil))) fun _ _ h => h))
  exact run_res (np := 3) (n := 4) rfl (by decide) rfl nb_N js
set_option maxHeartbeats 4000000 in
theorem cf_meeting : CF f_meeting (fun a : (YTable × (List Int) × (List Int) × Unit) => t_meeting a.1 a.2.1 a.2.2.1) (aCons (sR e_Table) (aCons (sR (eL D.int)) (aCons (sR (eL D.int)) aNil))) (qN (eL D.int)) := by
  refine cg_R fun a0 s0 h0 => cg_R fun a1 s1 h1 => cg_R fun a2 s2 h2 => cg_nil ?_
  have js : JS (kD (qN (eL D.int))) m_meeting [s0, s1, s2, .un] (b_meeting a0 a1 a2) Empty.elim := by
    unfold b_meeting m_meeting
    exact (js_exp (j_call cf_look_both (ja_cons (J.AC (j_rd h0 rfl)) C_sR (ja_cons (J.AC (j_rd h1 rfl)) C_sR (ja_cons (J.AC (j_rd h2 rfl)) C_sR ja_nil)))) fun _ => 
  (js_ret (fun a => a) (j_call cf_settled (ja_cons (J.AC (j_rd h0 rfl)) C_sR (ja_cons (J.FC (j_opT (j_lcR (j_r1 (j_lenL (e := D.int) (J.AC (j_rd h1 rfl)))) (fun v1 => j_yes) (fun v1 => (j_min2 (j_ixL (J.AC (j_rd h1 rfl)) (j_fz (e := D.int) (a := v1) rfl)) (j_ixL (J.AC (j_rd h2 rfl)) (j_fz (e := D.int) (a := v1) rfl))))))) C_sR ja_nil))) fun _ _ h => h))
  exact run_res (np := 3) (n := 4) rfl (by decide) rfl nb_N js
set_option maxHeartbeats 4000000 in
theorem cf_kept : CF f_kept (fun a : (YTable × (List Int) × Unit) => t_kept a.1 a.2.1) (aCons (sR e_Table) (aCons (sR (eL D.int)) aNil)) (qN (eL D.int)) := by
  refine cg_R fun a0 s0 h0 => cg_R fun a1 s1 h1 => cg_nil ?_
  have js : JS (kD (qN (eL D.int))) m_kept [s0, s1] (b_kept a0 a1) Empty.elim := by
    unfold b_kept m_kept
    exact (js_ifT (E0 := Empty.elim) (jb_not (j_bl? (j_op (j_call cf_agrees (ja_cons (J.AC (j_rd h0 rfl)) C_sR (ja_cons (J.AC (j_rd h1 rfl)) C_sR ja_nil))))))
  (js_raise)
  (js_ret (fun a => a) (j_up (j_ixT (e' := (eL D.int)) (fun x : ((List Int) × (List Int) × Unit) => x.2.1) (1) (J.FC (j_op (j_meth cf_Table_passed (J.AC (j_rd h0 rfl)) C_sR (isO_C io_Table_passed) (ja_cons (J.AC (j_rd h1 rfl)) C_sR ja_nil)))) (fun _ => rfl) (fun _ => rfl))) fun _ _ h => h))
  exact run_res (np := 2) (n := 2) rfl (by decide) rfl nb_N js
set_option maxHeartbeats 4000000 in
theorem cf_law_draws : CF f_law_draws (fun a : ((List Int) × Int × Unit) => t_law_draws a.1 a.2.1) (aCons (sF D.scr) (aCons (sF D.int) aNil)) (qT (oL D.int)) := by
  refine cg_F fun a0 => cg_F fun a1 => cg_nil ?_
  have js : JS (kD (qT (oL D.int))) m_law_draws [.fz (D.scr a0), .fz (D.int a1), .un, .un, .un, .un, .un] (b_law_draws a0 a1) Empty.elim := by
    unfold b_law_draws m_law_draws
    exact (js_own (j_lst (jl_nil (e := D.int))) fun v1 => 
  (js_set (e := D.int) j_int fun v2 => 
  (js_forL (e := D.int) (Eg := (fun (v3 : ((List Int) × Int × Unit)) (v4 : Int) => [.fz (D.scr a0), .fz (D.int a1), .ow ((oL D.int) v3.1), .fz (D.int v3.2.1), .fz (D.int v4), .un, .un])) (fun v3 : ((List Int) × Int × Unit) => [.fz (D.scr a0), .fz (D.int a1), .ow ((oL D.int) v3.1), .fz (D.int v3.2.1), .un, .un, .un]) (v1, v2, ()) (J.FA (j_opT (j_slX (j_fz (e := D.scr) (a := a0) rfl) jq_no (jq_some j_int)))) (fun _ _ => rfl) (fun v3 v4 => 
  (js_set (e := D.int) (j_I (j_I (j_I (j_I (j_fz (e := D.int) (a := v3.2.1) rfl) j_int) (j_I (j_fz (e := D.int) (a := v4) rfl) j_int)) j_int) j_int) fun v5 => 
  (js_set (e := D.int) (j_I (j_fz (e := D.int) (a := v4) rfl) (j_I j_int j_int)) fun v6 => 
  (js_seq (En := (fun v8 : ((List Int) × Unit) => [.fz (D.scr a0), .fz (D.int a1), .ow ((oL D.int) v8.1), .fz (D.int v5), .fz (D.int v4), .fz (D.int v6), .un])) (js_if (j_lt (j_fz (e := D.int) (a := v6) rfl) j_int)
  (js_app (e := D.int) rfl (j_I (j_fz (e := D.int) (a := v4) rfl) j_int) fun v7 => 
  (js_nil rfl))
  (js_nil rfl)) fun v8 => 
  (js_forR (Eg := (fun (v9 : ((List Int) × Int × Unit)) (v10 : Int) => [.fz (D.scr a0), .fz (D.int a1), .ow ((oL D.int) v9.1), .fz (D.int v5), .fz (D.int v4), .fz (D.int v9.2.1), .fz (D.int v10)])) (fun v9 : ((List Int) × Int × Unit) => [.fz (D.scr a0), .fz (D.int a1), .ow ((oL D.int) v9.1), .fz (D.int v5), .fz (D.int v4), .fz (D.int v9.2.1), .un]) (v8.1, v6, ()) (j_r1 j_int) (fun _ _ => rfl) (fun v9 v10 => 
  (js_seq (En := (fun v13 : ((List Int) × Int × Unit) => [.fz (D.scr a0), .fz (D.int a1), .ow ((oL D.int) v13.1), .fz (D.int v5), .fz (D.int v4), .fz (D.int v13.2.1), .fz (D.int v10)])) (js_if (j_gt (j_fz (e := D.int) (a := v9.2.1) rfl) j_int)
  (js_app (e := D.int) rfl (j_I (j_fz (e := D.int) (a := v9.2.1) rfl) j_int) fun v11 => 
  (js_set (e := D.int) (j_I (j_fz (e := D.int) (a := v9.2.1) rfl) j_int) fun v12 => 
  (js_nil rfl)))
  (js_nil rfl)) fun v13 => 
  (js_wp [6] (js_nil rfl)))) fun v9 => 
  (js_wp [4, 5] (js_nil rfl))))))) fun v3 => 
  (js_forR (Eg := (fun (v14 : ((List Int) × Int × Unit)) (v15 : Int) => [.fz (D.scr a0), .fz (D.int a1), .ow ((oL D.int) v14.1), .fz (D.int v14.2.1), .un, .un, .fz (D.int v15)])) (fun v14 : ((List Int) × Int × Unit) => [.fz (D.scr a0), .fz (D.int a1), .ow ((oL D.int) v14.1), .fz (D.int v14.2.1), .un, .un, .un]) (v3.1, v3.2.1, ()) (j_r1 (j_fz (e := D.int) (a := a1) rfl)) (fun _ _ => rfl) (fun v14 v15 => 
  (js_set (e := D.int) (j_I (j_I (j_I (j_I (j_I (j_fz (e := D.int) (a := v14.2.1) rfl) (j_fz (e := D.int) (a := v14.2.1) rfl)) (j_I j_int (j_fz (e := D.int) (a := v14.2.1) rfl))) (j_I j_int (j_fz (e := D.int) (a := v15) rfl))) j_int) j_int) fun v16 => 
  (js_app (e := D.int) rfl (j_I (j_I (j_fz (e := D.int) (a := v16) rfl) j_int) j_int) fun v17 => 
  (js_wp [6] (js_nil rfl))))) fun v14 => 
  (js_ret (fun a => a) (j_slL (j_ow (eo := (oL D.int)) (a := v14.1) (e := (eL D.int)) rfl) jq_no (jq_some (j_fz (e := D.int) (a := a1) rfl))) fun _ _ h => h)))))
  exact run_res (np := 2) (n := 7) rfl (by decide) rfl nb_T js
set_option maxHeartbeats 4000000 in
theorem cf_law_due : CF f_law_due (fun a : (Str × Unit) => t_law_due a.1) (aCons (sF D.str) aNil) (qT (oL D.bl)) := by
  refine cg_F fun a0 => cg_nil ?_
  have js : JS (kD (qT (oL D.bl))) m_law_due [.fz (D.str a0), .un, .un] (b_law_due a0) Empty.elim := by
    unfold b_law_due m_law_due
    exact (js_set (e := (eL D.str)) (j_opT (j_lst (jl_cons j_str (jl_cons j_str (jl_cons j_str (jl_cons j_str (jl_cons j_str (jl_cons j_str (jl_cons j_str (jl_cons j_str (jl_nil (e := D.str)))))))))))) fun v1 => 
  (js_set (e := (eL D.str)) (j_opT (j_cat (J.FC (j_fz (e := (eL D.str)) (a := v1) rfl)) (J.FC (j_opT (j_lst (jl_cons j_str (jl_cons j_str (jl_cons j_str (jl_cons j_str (jl_cons j_str (jl_cons j_str (jl_cons j_str (jl_cons j_str (jl_nil (e := D.str))))))))))))))) fun v2 => 
  (js_set (e := (eL D.str)) (j_opT (j_cat (J.FC (j_fz (e := (eL D.str)) (a := v2) rfl)) (J.FC (j_opT (j_lst (jl_cons j_str (jl_cons j_str (jl_cons j_str (jl_cons j_str (jl_cons j_str (jl_nil (e := D.str)))))))))))) fun v3 => 
  (js_ret (fun a => a) (j_cat (J.FC (j_opT (j_lst (jl_cons j_bl (jl_nil (e := D.bl)))))) (J.FC (j_opT (j_lcL (e := D.str) (J.FA (j_fz (e := (eL D.str)) (a := v3) rfl)) (fun v4 => j_yes) (fun v4 => (j_vb (j_eq (e := D.str) (e' := D.str) (J.FC (j_fz (e := D.str) (a := v4) rfl)) (J.FC (j_fz (e := D.str) (a := a0) rfl))))))))) fun _ _ h => h))))
  exact run_res (np := 1) (n := 3) rfl (by decide) rfl nb_T js
set_option maxHeartbeats 4000000 in
theorem cf_law_lines : CF f_law_lines (fun a : (Int × Int × (List Int) × Unit) => t_law_lines a.1 a.2.1 a.2.2.1) (aCons (sF D.int) (aCons (sF D.int) (aCons (sR (eL D.int)) aNil))) (qN (eS (eT (eP D.int (eP D.int eU))))) := by
  refine cg_F fun a0 => cg_F fun a1 => cg_R fun a2 s2 h2 => cg_nil ?_
  have js : JS (kD (qN (eS (eT (eP D.int (eP D.int eU)))))) m_law_lines [.fz (D.int a0), .fz (D.int a1), s2, .un, .un, .un, .un, .un, .un] (b_law_lines a0 a1 a2) Empty.elim := by
    unfold b_law_lines m_law_lines
    exact (js_own (j_lcR (j_r1 (j_fz (e := D.int) (a := a0) rfl)) (fun v2 => (j_ne (e := D.int) (e' := D.int) (J.FC (j_fz (e := D.int) (a := v2) rfl)) (J.FC (j_fz (e := D.int) (a := a1) rfl)))) (fun v2 => (j_fz (e := D.int) (a := v2) rfl))) fun v1 => 
  (js_set (e := D.int) (j_I j_int (j_I (j_ixL (J.AC (j_rd h2 rfl)) j_int) (j_min2 j_int (j_lenL (e := D.int) (j_ow (eo := (oL D.int)) (a := v1) (e := (eL D.int)) rfl))))) fun v3 => 
  (js_own (j_lst (jl_nil (e := (eT (eP D.int (eP D.int eU)))))) fun v4 => 
  (js_forR (Eg := (fun (v5 : ((List Int) × (List (Int × Int × Unit)) × Unit)) (v6 : Int) => [.fz (D.int a0), .fz (D.int a1), s2, .ow ((oL D.int) v5.1), .fz (D.int v6), .fz (D.int v3), .ow ((oL (eT (eP D.int (eP D.int eU)))) v5.2.1), .un, .un])) (fun v5 : ((List Int) × (List (Int × Int × Unit)) × Unit) => [.fz (D.int a0), .fz (D.int a1), s2, .ow ((oL D.int) v5.1), .un, .fz (D.int v3), .ow ((oL (eT (eP D.int (eP D.int eU)))) v5.2.1), .un, .un]) (v1, v4, ()) (j_r1 (j_fz (e := D.int) (a := v3) rfl)) (fun _ _ => rfl) (fun v5 v6 => 
  (js_popAt (e := D.int) rfl (j_I (j_ixL (J.AC (j_rd h2 rfl)) (j_I j_int (j_fz (e := D.int) (a := v6) rfl))) (j_lenL (e := D.int) (j_ow (eo := (oL D.int)) (a := v5.1) (e := (eL D.int)) rfl))) fun v7 => 
  (js_set (e := D.int) (j_I j_int (j_I (j_I (j_ixL (J.AC (j_rd h2 rfl)) (j_I j_int (j_fz (e := D.int) (a := v6) rfl))) j_int) j_int)) fun v8 => 
  (js_seq (En := (fun v10 : (Int × Unit) => [.fz (D.int a0), .fz (D.int a1), s2, .ow ((oL D.int) v7.2), .fz (D.int v6), .fz (D.int v3), .ow ((oL (eT (eP D.int (eP D.int eU)))) v5.2.1), .fz (D.int v7.1), .fz (D.int v10.1)])) (js_if (j_eq (e := D.int) (e' := D.int) (J.FC (j_I (j_I (j_ixL (J.AC (j_rd h2 rfl)) j_int) j_int) j_int)) (J.FC j_int))
  (js_set (e := D.int) (j_I j_int (j_I (j_I (j_ixL (J.AC (j_rd h2 rfl)) (j_I j_int (j_fz (e := D.int) (a := v6) rfl))) j_int) j_int)) fun v9 => 
  (js_nil rfl))
  (js_nil rfl)) fun v10 => 
  (js_app (e := (eT (eP D.int (eP D.int eU)))) rfl (j_tup (jt_cons (j_fz (e := D.int) (a := v7.1) rfl) (jt_cons (j_fz (e := D.int) (a := v10.1) rfl) jt_nil))) fun v11 => 
  (js_wp [4, 7, 8] (js_nil rfl))))))) fun v5 => 
  (js_ret (fun a => a) (j_up (j_tupL (e := (eT (eP D.int (eP D.int eU)))) (j_ow (eo := (oL (eT (eP D.int (eP D.int eU))))) (a := v5.2.1) (e := (eL (eT (eP D.int (eP D.int eU))))) rfl))) fun _ _ h => h)))))
  exact run_res (np := 3) (n := 9) rfl (by decide) rfl nb_N js
set_option maxHeartbeats 4000000 in
theorem cf_law_cover : CF f_law_cover (fun a : (Int × (List Int) × Unit) => t_law_cover a.1 a.2.1) (aCons (sF D.int) (aCons (sR (eL D.int)) aNil)) (qN (eT (eP D.int (eP D.str (eP D.int (eP D.int (eP (eS (eT (eP D.int (eP D.int eU)))) eU))))))) := by
  refine cg_F fun a0 => cg_R fun a1 s1 h1 => cg_nil ?_
  have js : JS (kD (qN (eT (eP D.int (eP D.str (eP D.int (eP D.int (eP (eS (eT (eP D.int (eP D.int eU)))) eU)))))))) m_law_cover [.fz (D.int a0), s1, .un, .un, .un, .un] (b_law_cover a0 a1) Empty.elim := by
    unfold b_law_cover m_law_cover
    exact (js_set (e := D.int) (j_I (j_ixL (J.AC (j_rd h1 rfl)) j_int) (j_fz (e := D.int) (a := a0) rfl)) fun v1 => 
  (js_set (e := D.str) (j_ixL (J.FC (j_opT (j_lst (jl_cons j_str (jl_cons j_str (jl_nil (e := D.str))))))) (j_I (j_ixL (J.AC (j_rd h1 rfl)) j_int) j_int)) fun v2 => 
  (js_set (e := D.int) (j_I (j_ixL (J.AC (j_rd h1 rfl)) j_int) j_int) fun v3 => 
  (js_seq (En := (fun v5 : (Int × Unit) => [.fz (D.int a0), s1, .fz (D.int v1), .fz (D.str v2), .fz (D.int v5.1), .un])) (js_if (j_eq (e := D.int) (e' := D.int) (J.FC (j_I (j_I (j_ixL (J.AC (j_rd h1 rfl)) j_int) j_int) j_int)) (J.FC j_int))
  (js_set (e := D.int) (j_I (j_ixL (J.AC (j_rd h1 rfl)) j_int) j_int) fun v4 => 
  (js_nil rfl))
  (js_nil rfl)) fun v5 => 
  (js_seq (En := (fun v7 : (Int × Unit) => [.fz (D.int a0), s1, .fz (D.int v1), .fz (D.str v2), .fz (D.int v7.1), .un])) (js_if (j_eq (e := D.str) (e' := D.str) (J.FC (j_fz (e := D.str) (a := v2) rfl)) (J.FC j_str))
  (js_set (e := D.int) (j_ixL (J.FC (j_opT (j_lst (jl_cons (j_I j_int (j_I (j_ixL (J.AC (j_rd h1 rfl)) j_int) j_int)) (jl_cons j_int (jl_cons (j_I j_int (j_I (j_ixL (J.AC (j_rd h1 rfl)) j_int) j_int)) (jl_nil (e := D.int)))))))) (j_I (j_I (j_ixL (J.AC (j_rd h1 rfl)) j_int) j_int) j_int)) fun v6 => 
  (js_nil rfl))
  (js_nil rfl)) fun v7 => 
  (js_set (e := D.int) (j_I (j_ixL (J.AC (j_rd h1 rfl)) j_int) j_int) fun v8 => 
  (js_ret (fun a => a) (j_up (j_tup (jt_cons (j_fz (e := D.int) (a := v1) rfl) (jt_cons (j_fz (e := D.str) (a := v2) rfl) (jt_cons (j_fz (e := D.int) (a := v7.1) rfl) (jt_cons (j_fz (e := D.int) (a := v8) rfl) (jt_cons (j_op (j_call cf_law_lines (ja_cons (j_fz (e := D.int) (a := a0) rfl) F_sF (ja_cons (j_fz (e := D.int) (a := v1) rfl) F_sF (ja_cons (J.FC (j_opT (j_slL (J.AC (j_rd h1 rfl)) (jq_some j_int) (jq_some j_int)))) C_sR ja_nil))))) jt_nil))))))) fun _ _ h => h)))))))
  exact run_res (np := 2) (n := 6) rfl (by decide) rfl nb_N js
set_option maxHeartbeats 4000000 in
theorem cf_law_rows : CF f_law_rows (fun a : (Int × (List Int) × Unit) => t_law_rows a.1 a.2.1) (aCons (sF D.int) (aCons (sR (eL D.int)) aNil)) (qN (eL (eT (eP D.int (eP D.str (eP D.int (eP D.int (eP (eS (eT (eP D.int (eP D.int eU)))) eU)))))))) := by
  refine cg_F fun a0 => cg_R fun a1 s1 h1 => cg_nil ?_
  have js : JS (kD (qN (eL (eT (eP D.int (eP D.str (eP D.int (eP D.int (eP (eS (eT (eP D.int (eP D.int eU)))) eU))))))))) m_law_rows [.fz (D.int a0), s1, .un, .un, .un] (b_law_rows a0 a1) Empty.elim := by
    unfold b_law_rows m_law_rows
    exact (js_ifT (E0 := Empty.elim) (j_eq (e := D.int) (e' := D.int) (J.FC (j_fz (e := D.int) (a := a0) rfl)) (J.FC j_int))
  (js_ret (fun a => a) (J.TN (e := (eL (eT (eP D.int (eP D.str (eP D.int (eP D.int (eP (eS (eT (eP D.int (eP D.int eU)))) eU)))))))) (j_lst (jl_nil (e := (eT (eP D.int (eP D.str (eP D.int (eP D.int (eP (eS (eT (eP D.int (eP D.int eU)))) eU)))))))))) fun _ _ h => h)
  (js_set (e := D.int) (j_I (j_ixL (J.AC (j_rd h1 rfl)) j_int) j_int) fun v1 => 
  (js_set (e := (eL (eT (eP D.int (eP D.str (eP D.int (eP D.int (eP (eS (eT (eP D.int (eP D.int eU)))) eU)))))))) (j_opT (j_lcR (j_r1 (j_fz (e := D.int) (a := v1) rfl)) (fun v3 => j_yes) (fun v3 => (j_op (j_call cf_law_cover (ja_cons (j_fz (e := D.int) (a := a0) rfl) F_sF (ja_cons (J.FC (j_opT (j_slL (J.AC (j_rd h1 rfl)) (jq_some (j_I j_int (j_I j_int (j_fz (e := D.int) (a := v3) rfl)))) (jq_some (j_I j_int (j_I j_int (j_fz (e := D.int) (a := v3) rfl))))))) C_sR ja_nil))))))) fun v2 => 
  (js_seq (En := (fun v6 : ((List (Int × Str × Int × Int × (List (Int × Int × Unit)) × Unit)) × Unit) => [.fz (D.int a0), s1, .fz (D.int v1), .fz ((eL (eT (eP D.int (eP D.str (eP D.int (eP D.int (eP (eS (eT (eP D.int (eP D.int eU)))) eU))))))) v6.1), .un])) (js_if (j_eq (e := D.int) (e' := D.int) (J.FC (j_I (j_I (j_ixL (J.AC (j_rd h1 rfl)) j_int) j_int) j_int)) (J.FC j_int))
  (js_set (e := (eL (eT (eP D.int (eP D.str (eP D.int (eP D.int (eP (eS (eT (eP D.int (eP D.int eU)))) eU)))))))) (j_opT (j_lcR (j_r1 (j_fz (e := D.int) (a := v1) rfl)) (fun v5 => j_yes) (fun v5 => (j_ixL (J.FC (j_fz (e := (eL (eT (eP D.int (eP D.str (eP D.int (eP D.int (eP (eS (eT (eP D.int (eP D.int eU)))) eU)))))))) (a := v2) rfl)) (j_I (j_fz (e := D.int) (a := v5) rfl) j_int))))) fun v4 => 
  (js_nil rfl))
  (js_nil rfl)) fun v6 => 
  (js_ret (fun a => a) (j_up (j_fz (e := (eL (eT (eP D.int (eP D.str (eP D.int (eP D.int (eP (eS (eT (eP D.int (eP D.int eU)))) eU)))))))) (a := v6.1) rfl)) fun _ _ h => h)))))
  exact run_res (np := 2) (n := 5) rfl (by decide) rfl nb_N js
set_option maxHeartbeats 4000000 in
theorem cf_law_losses : CF f_law_losses (fun a : (Int × (List Int) × Unit) => t_law_losses a.1 a.2.1) (aCons (sF D.int) (aCons (sR (eL D.int)) aNil)) (qT (oL D.int)) := by
  refine cg_F fun a0 => cg_R fun a1 s1 h1 => cg_nil ?_
  have js : JS (kD (qT (oL D.int))) m_law_losses [.fz (D.int a0), s1, .un, .un, .un] (b_law_losses a0 a1) Empty.elim := by
    unfold b_law_losses m_law_losses
    exact (js_own (j_lst (jl_nil (e := D.int))) fun v1 => 
  (js_forR (Eg := (fun (v2 : ((List Int) × Unit)) (v3 : Int) => [.fz (D.int a0), s1, .ow ((oL D.int) v2.1), .fz (D.int v3), .un])) (fun v2 : ((List Int) × Unit) => [.fz (D.int a0), s1, .ow ((oL D.int) v2.1), .un, .un]) (v1, ()) (j_r1 (j_fz (e := D.int) (a := a0) rfl)) (fun _ _ => rfl) (fun v2 v3 => 
  (js_set (e := D.int) (j_ixL (J.AC (j_rd h1 rfl)) (j_I j_int (j_fz (e := D.int) (a := v3) rfl))) fun v4 => 
  (js_app (e := D.int) rfl (j_ixL (J.FC (j_opT (j_lst (jl_cons j_int (jl_cons (j_I (j_fz (e := D.int) (a := v4) rfl) j_int) (jl_cons (j_I (j_fz (e := D.int) (a := v4) rfl) j_int) (jl_cons (j_I (j_fz (e := D.int) (a := v4) rfl) j_int) (jl_cons (j_I (j_I (j_fz (e := D.int) (a := v4) rfl) j_int) j_int) (jl_nil (e := D.int)))))))))) (j_I (j_I (j_ixL (J.AC (j_rd h1 rfl)) j_int) (j_I (j_fz (e := D.int) (a := v4) rfl) j_int)) j_int)) fun v5 => 
  (js_wp [3, 4] (js_nil rfl))))) fun v2 => 
  (js_retO (eo := (oL D.int)) (a := v2.1) rfl rfl)))
  exact run_res (np := 2) (n := 5) rfl (by decide) rfl nb_T js
set_option maxHeartbeats 4000000 in
theorem cf_law_made : CF f_law_made (fun a : ((List Int) × Unit) => t_law_made a.1) (aCons (sR (eL D.int)) aNil) (qN (eT (eP D.int (eP (eL (eT (eP D.int (eP D.str (eP D.int (eP D.int (eP (eS (eT (eP D.int (eP D.int eU)))) eU))))))) (eP (eL D.int) eU))))) := by
  refine cg_R fun a0 s0 h0 => cg_nil ?_
  have js : JS (kD (qN (eT (eP D.int (eP (eL (eT (eP D.int (eP D.str (eP D.int (eP D.int (eP (eS (eT (eP D.int (eP D.int eU)))) eU))))))) (eP (eL D.int) eU)))))) m_law_made [s0, .un] (b_law_made a0) Empty.elim := by
    unfold b_law_made m_law_made
    exact (js_set (e := D.int) (j_I j_int (j_I (j_I (j_ixL (J.AC (j_rd h0 rfl)) j_int) j_int) j_int)) fun v1 => 
  (js_ret (fun a => a) (j_up (j_tup (jt_cons (j_fz (e := D.int) (a := v1) rfl) (jt_cons (j_op (j_call cf_law_rows (ja_cons (j_fz (e := D.int) (a := v1) rfl) F_sF (ja_cons (J.FC (j_opT (j_slL (J.AC (j_rd h0 rfl)) (jq_some j_int) (jq_some j_int)))) C_sR ja_nil)))) (jt_cons (j_opT (j_call cf_law_losses (ja_cons (j_fz (e := D.int) (a := v1) rfl) F_sF (ja_cons (J.FC (j_opT (j_slL (J.AC (j_rd h0 rfl)) (jq_some j_int) (jq_some j_int)))) C_sR ja_nil)))) jt_nil))))) fun _ _ h => h))
  exact run_res (np := 1) (n := 2) rfl (by decide) rfl nb_N js
set_option maxHeartbeats 4000000 in
theorem cf_law_split : CF f_law_split (fun a : ((List (Int × Int × Unit)) × Int × Unit) => t_law_split a.1 a.2.1) (aCons (sF (eS (eT (eP D.int (eP D.int eU))))) (aCons (sF D.int) aNil)) (qT (oL (eL D.int))) := by
  refine cg_F fun a0 => cg_F fun a1 => cg_nil ?_
  have js : JS (kD (qT (oL (eL D.int)))) m_law_split [.fz ((eS (eT (eP D.int (eP D.int eU)))) a0), .fz (D.int a1), .un, .un, .un, .un, .un, .un] (b_law_split a0 a1) Empty.elim := by
    unfold b_law_split m_law_split
    exact (js_own (j_rep (J.FC (j_opT (j_lst (jl_cons j_int (jl_nil (e := D.int)))))) (j_lenS (e := (eT (eP D.int (eP D.int eU)))) (J.FC (j_fz (e := (eS (eT (eP D.int (eP D.int eU))))) (a := a0) rfl)))) fun v1 => 
  (js_own (j_lst (jl_cons (j_opT (j_listL (e := D.int) (j_ow (eo := (oL D.int)) (a := v1) (e := (eL D.int)) rfl))) (jl_nil (e := (eL D.int))))) fun v2 => 
  (js_forR (Eg := (fun (v3 : ((List Int) × (List (List Int)) × Unit)) (v4 : Int) => [.fz ((eS (eT (eP D.int (eP D.int eU)))) a0), .fz (D.int a1), .ow ((oL D.int) v3.1), .ow ((oL (eL D.int)) v3.2.1), .fz (D.int v4), .un, .un, .un])) (fun v3 : ((List Int) × (List (List Int)) × Unit) => [.fz ((eS (eT (eP D.int (eP D.int eU)))) a0), .fz (D.int a1), .ow ((oL D.int) v3.1), .ow ((oL (eL D.int)) v3.2.1), .un, .un, .un, .un]) (v1, v2, ()) (j_r1 (j_fz (e := D.int) (a := a1) rfl)) (fun _ _ => rfl) (fun v3 v4 => 
  (js_set (e := D.int) j_int fun v5 => 
  (js_forR (Eg := (fun (v6 : (Int × Unit)) (v7 : Int) => [.fz ((eS (eT (eP D.int (eP D.int eU)))) a0), .fz (D.int a1), .ow ((oL D.int) v3.1), .ow ((oL (eL D.int)) v3.2.1), .fz (D.int v4), .fz (D.int v6.1), .fz (D.int v7), .un])) (fun v6 : (Int × Unit) => [.fz ((eS (eT (eP D.int (eP D.int eU)))) a0), .fz (D.int a1), .ow ((oL D.int) v3.1), .ow ((oL (eL D.int)) v3.2.1), .fz (D.int v4), .fz (D.int v6.1), .un, .un]) (v5, ()) (j_r1 (j_lenS (e := (eT (eP D.int (eP D.int eU)))) (J.FC (j_fz (e := (eS (eT (eP D.int (eP D.int eU))))) (a := a0) rfl)))) (fun _ _ => rfl) (fun v6 v7 => 
  (js_set (e := D.int) (j_I (j_I (j_ixL (j_ow (eo := (oL D.int)) (a := v3.1) (e := (eL D.int)) rfl) (j_fz (e := D.int) (a := v7) rfl)) j_int) (j_ixT (e' := D.int) (fun x : (Int × Int × Unit) => x.2.1) (1) (J.FC (j_ixS (J.FC (j_fz (e := (eS (eT (eP D.int (eP D.int eU))))) (a := a0) rfl)) (j_fz (e := D.int) (a := v6.1) rfl))) (fun _ => rfl) (fun _ => rfl))) fun v8 => 
  (js_seq (En := (fun v10 : (Int × Unit) => [.fz ((eS (eT (eP D.int (eP D.int eU)))) a0), .fz (D.int a1), .ow ((oL D.int) v3.1), .ow ((oL (eL D.int)) v3.2.1), .fz (D.int v4), .fz (D.int v10.1), .fz (D.int v7), .fz (D.int v8)])) (js_if (j_lt (j_fz (e := D.int) (a := v8) rfl) (j_I (j_I (j_ixL (j_ow (eo := (oL D.int)) (a := v3.1) (e := (eL D.int)) rfl) (j_fz (e := D.int) (a := v6.1) rfl)) j_int) (j_ixT (e' := D.int) (fun x : (Int × Int × Unit) => x.2.1) (1) (J.FC (j_ixS (J.FC (j_fz (e := (eS (eT (eP D.int (eP D.int eU))))) (a := a0) rfl)) (j_fz (e := D.int) (a := v7) rfl))) (fun _ => rfl) (fun _ => rfl))))
  (js_set (e := D.int) (j_fz (e := D.int) (a := v7) rfl) fun v9 => 
  (js_nil rfl))
  (js_nil rfl)) fun v10 => 
  (js_wp [6, 7] (js_nil rfl))))) fun v6 => 
  (js_it (e := D.int) rfl (j_fz (e := D.int) (a := v6.1) rfl) (j_I (j_ixL (j_ow (eo := (oL D.int)) (a := v3.1) (e := (eL D.int)) rfl) (j_fz (e := D.int) (a := v6.1) rfl)) j_int) fun v11 => 
  (js_app (e := (eL D.int)) rfl (j_opT (j_listL (e := D.int) (j_ow (eo := (oL D.int)) (a := v11) (e := (eL D.int)) rfl))) fun v12 => 
  (js_wp [4, 5] (js_nil rfl))))))) fun v3 => 
  (js_retO (eo := (oL (eL D.int))) (a := v3.2.1) rfl rfl))))
  exact run_res (np := 2) (n := 8) rfl (by decide) rfl nb_T js
set_option maxHeartbeats 4000000 in
theorem cf_law_splits : CF f_law_splits (fun a : ((List (Int × Str × Int × Int × (List (Int × Int × Unit)) × Unit)) × Unit) => t_law_splits a.1) (aCons (sR (eL (eT (eP D.int (eP D.str (eP D.int (eP D.int (eP (eS (eT (eP D.int (eP D.int eU)))) eU)))))))) aNil) (qT (oL (eL (eL D.int)))) := by
  refine cg_R fun a0 s0 h0 => cg_nil ?_
  have js : JS (kD (qT (oL (eL (eL D.int))))) m_law_splits [s0, .un] (b_law_splits a0) Empty.elim := by
    unfold b_law_splits m_law_splits
    exact (js_ret (fun a => a) (j_lcL (e := (eT (eP D.int (eP D.str (eP D.int (eP D.int (eP (eS (eT (eP D.int (eP D.int eU)))) eU))))))) (j_rd h0 rfl) (fun v1 => j_yes) (fun v1 => (j_opT (j_call cf_law_split (ja_cons (j_ixT (e' := (eS (eT (eP D.int (eP D.int eU))))) (fun x : (Int × Str × Int × Int × (List (Int × Int × Unit)) × Unit) => x.2.2.2.2.1) (4) (J.FC (j_fz (e := (eT (eP D.int (eP D.str (eP D.int (eP D.int (eP (eS (eT (eP D.int (eP D.int eU)))) eU))))))) (a := v1) rfl)) (fun _ => rfl) (fun _ => rfl)) F_sF (ja_cons (j_ixT (e' := D.int) (fun x : (Int × Str × Int × Int × (List (Int × Int × Unit)) × Unit) => x.2.2.2.1) (3) (J.FC (j_fz (e := (eT (eP D.int (eP D.str (eP D.int (eP D.int (eP (eS (eT (eP D.int (eP D.int eU)))) eU))))))) (a := v1) rfl)) (fun _ => rfl) (fun _ => rfl)) F_sF ja_nil)))))) fun _ _ h => h)
  exact run_res (np := 1) (n := 2) rfl (by decide) rfl nb_T js
set_option maxHeartbeats 4000000 in
theorem cf_law_loads : CF f_law_loads (fun a : ((List (Int × Str × Int × Int × (List (Int × Int × Unit)) × Unit)) × (List Int) × (List (List (List Int))) × (List Int) × Unit) => t_law_loads a.1 a.2.1 a.2.2.1 a.2.2.2.1) (aCons (sR (eL (eT (eP D.int (eP D.str (eP D.int (eP D.int (eP (eS (eT (eP D.int (eP D.int eU)))) eU)))))))) (aCons (sR (eL D.int)) (aCons (sR (eL (eL (eL D.int)))) (aCons (sR (eL D.int)) aNil)))) (qT (oL D.int)) := by
  refine cg_R fun a0 s0 h0 => cg_R fun a1 s1 h1 => cg_R fun a2 s2 h2 => cg_R fun a3 s3 h3 => cg_nil ?_
  have js : JS (kD (qT (oL D.int))) m_law_loads [s0, s1, s2, s3, .un, .un, .un, .un, .un, .un] (b_law_loads a0 a1 a2 a3) Empty.elim := by
    unfold b_law_loads m_law_loads
    exact (js_own (j_listL (e := D.int) (J.AC (j_rd h1 rfl))) fun v1 => 
  (js_forR (Eg := (fun (v2 : ((List Int) × Unit)) (v3 : Int) => [s0, s1, s2, s3, .ow ((oL D.int) v2.1), .fz (D.int v3), .un, .un, .un, .un])) (fun v2 : ((List Int) × Unit) => [s0, s1, s2, s3, .ow ((oL D.int) v2.1), .un, .un, .un, .un, .un]) (v1, ()) (j_r1 (j_lenL (e := (eT (eP D.int (eP D.str (eP D.int (eP D.int (eP (eS (eT (eP D.int (eP D.int eU)))) eU))))))) (J.AC (j_rd h0 rfl)))) (fun _ _ => rfl) (fun v2 v3 => 
  (js_set (e := (eS (eT (eP D.int (eP D.int eU))))) (j_ixT (e' := (eS (eT (eP D.int (eP D.int eU))))) (fun x : (Int × Str × Int × Int × (List (Int × Int × Unit)) × Unit) => x.2.2.2.2.1) (4) (J.FC (j_ixL (J.AC (j_rd h0 rfl)) (j_fz (e := D.int) (a := v3) rfl))) (fun _ => rfl) (fun _ => rfl)) fun v4 => 
  (js_set (e := (eL D.int)) (j_ixL (J.FC (j_ixL (J.AC (j_rd h2 rfl)) (j_fz (e := D.int) (a := v3) rfl))) (j_ixL (J.AC (j_rd h3 rfl)) (j_fz (e := D.int) (a := v3) rfl))) fun v5 => 
  (js_forR (Eg := (fun (v6 : ((List Int) × Unit)) (v7 : Int) => [s0, s1, s2, s3, .ow ((oL D.int) v6.1), .fz (D.int v3), .fz ((eS (eT (eP D.int (eP D.int eU)))) v4), .fz ((eL D.int) v5), .fz (D.int v7), .un])) (fun v6 : ((List Int) × Unit) => [s0, s1, s2, s3, .ow ((oL D.int) v6.1), .fz (D.int v3), .fz ((eS (eT (eP D.int (eP D.int eU)))) v4), .fz ((eL D.int) v5), .un, .un]) (v2.1, ()) (j_r1 (j_lenS (e := (eT (eP D.int (eP D.int eU)))) (J.FC (j_fz (e := (eS (eT (eP D.int (eP D.int eU))))) (a := v4) rfl)))) (fun _ _ => rfl) (fun v6 v7 => 
  (js_set (e := D.int) (j_ixT (e' := D.int) (fun x : (Int × Int × Unit) => x.1) (0) (J.FC (j_ixS (J.FC (j_fz (e := (eS (eT (eP D.int (eP D.int eU))))) (a := v4) rfl)) (j_fz (e := D.int) (a := v7) rfl))) (fun _ => rfl) (fun _ => rfl)) fun v8 => 
  (js_it (e := D.int) rfl (j_fz (e := D.int) (a := v8) rfl) (j_I (j_ixL (j_ow (eo := (oL D.int)) (a := v6.1) (e := (eL D.int)) rfl) (j_fz (e := D.int) (a := v8) rfl)) (j_ixL (J.FC (j_fz (e := (eL D.int)) (a := v5) rfl)) (j_fz (e := D.int) (a := v7) rfl))) fun v9 => 
  (js_wp [8, 9] (js_nil rfl))))) fun v6 => 
  (js_wp [5, 6, 7] (js_nil rfl)))))) fun v2 => 
  (js_retO (eo := (oL D.int)) (a := v2.1) rfl rfl)))
  exact run_res (np := 4) (n := 10) rfl (by decide) rfl nb_T js
set_option maxHeartbeats 4000000 in
theorem cf_law_take : CF f_law_take (fun a : (Str × Int × Int × Int × Unit) => t_law_take a.1 a.2.1 a.2.2.1 a.2.2.2.1) (aCons (sF D.str) (aCons (sF D.int) (aCons (sF D.int) (aCons (sF D.int) aNil)))) (qN D.int) := by
  refine cg_F fun a0 => cg_F fun a1 => cg_F fun a2 => cg_F fun a3 => cg_nil ?_
  have js : JS (kD (qN D.int)) m_law_take [.fz (D.str a0), .fz (D.int a1), .fz (D.int a2), .fz (D.int a3)] (b_law_take a0 a1 a2 a3) Empty.elim := by
    unfold b_law_take m_law_take
    exact (js_ifT (E0 := Empty.elim) (j_eq (e := D.str) (e' := D.str) (J.FC (j_fz (e := D.str) (a := a0) rfl)) (J.FC j_str))
  (js_ret (fun a => a) (j_up (j_min2 (j_fz (e := D.int) (a := a2) rfl) (j_I (j_I (j_fz (e := D.int) (a := a3) rfl) (j_fz (e := D.int) (a := a1) rfl)) j_int))) fun _ _ h => h)
  (js_ifT (E0 := Empty.elim) (j_le (j_fz (e := D.int) (a := a3) rfl) (j_fz (e := D.int) (a := a1) rfl))
  (js_ret (fun a => a) (j_up j_int) fun _ _ h => h)
  (js_ret (fun a => a) (j_up (j_min2 (j_fz (e := D.int) (a := a2) rfl) (j_I (j_fz (e := D.int) (a := a3) rfl) (j_fz (e := D.int) (a := a1) rfl)))) fun _ _ h => h)))
  exact run_res (np := 4) (n := 4) rfl (by decide) rfl nb_N js
set_option maxHeartbeats 4000000 in
theorem cf_law_passed : CF f_law_passed (fun a : ((List (Int × Str × Int × Int × (List (Int × Int × Unit)) × Unit)) × (List Int) × (List (List (List Int))) × (List Int) × Unit) => t_law_passed a.1 a.2.1 a.2.2.1 a.2.2.2.1) (aCons (sR (eL (eT (eP D.int (eP D.str (eP D.int (eP D.int (eP (eS (eT (eP D.int (eP D.int eU)))) eU)))))))) (aCons (sR (eL D.int)) (aCons (sR (eL (eL (eL D.int)))) (aCons (sR (eL D.int)) aNil)))) (qN (eT (eP (eL D.int) (eP (eL D.int) eU)))) := by
  refine cg_R fun a0 s0 h0 => cg_R fun a1 s1 h1 => cg_R fun a2 s2 h2 => cg_R fun a3 s3 h3 => cg_nil ?_
  have js : JS (kD (qN (eT (eP (eL D.int) (eP (eL D.int) eU))))) m_law_passed [s0, s1, s2, s3, .un, .un, .un, .un, .un, .un, .un, .un] (b_law_passed a0 a1 a2 a3) Empty.elim := by
    unfold b_law_passed m_law_passed
    exact (js_own (j_call cf_law_loads (ja_cons (J.AC (j_rd h0 rfl)) C_sR (ja_cons (J.AC (j_rd h1 rfl)) C_sR (ja_cons (J.AC (j_rd h2 rfl)) C_sR (ja_cons (J.AC (j_rd h3 rfl)) C_sR ja_nil))))) fun v1 => 
  (js_own (j_lst (jl_nil (e := D.int))) fun v2 => 
  (js_forL (e := (eT (eP D.int (eP D.str (eP D.int (eP D.int (eP (eS (eT (eP D.int (eP D.int eU)))) eU))))))) (Eg := (fun (v3 : ((List Int) × (List Int) × Unit)) (v4 : (Int × Str × Int × Int × (List (Int × Int × Unit)) × Unit)) => [s0, s1, s2, s3, .ow ((oL D.int) v3.1), .ow ((oL D.int) v3.2.1), .fz (D.int v4.1), .fz (D.str v4.2.1), .fz (D.int v4.2.2.1), .fz (D.int v4.2.2.2.1), .fz ((eS (eT (eP D.int (eP D.int eU)))) v4.2.2.2.2.1), .un])) (fun v3 : ((List Int) × (List Int) × Unit) => [s0, s1, s2, s3, .ow ((oL D.int) v3.1), .ow ((oL D.int) v3.2.1), .un, .un, .un, .un, .un, .un]) (v1, v2, ()) (j_rd h0 rfl) (fun _ _ => rfl) (fun v3 v4 => 
  (js_set (e := D.int) (j_op (j_call cf_law_take (ja_cons (j_fz (e := D.str) (a := v4.2.1) rfl) F_sF (ja_cons (j_fz (e := D.int) (a := v4.2.2.1) rfl) F_sF (ja_cons (j_fz (e := D.int) (a := v4.2.2.2.1) rfl) F_sF (ja_cons (j_ixL (j_ow (eo := (oL D.int)) (a := v3.1) (e := (eL D.int)) rfl) (j_fz (e := D.int) (a := v4.1) rfl)) F_sF ja_nil)))))) fun v5 => 
  (js_it (e := D.int) rfl (j_fz (e := D.int) (a := v4.1) rfl) (j_I (j_ixL (j_ow (eo := (oL D.int)) (a := v3.1) (e := (eL D.int)) rfl) (j_fz (e := D.int) (a := v4.1) rfl)) (j_fz (e := D.int) (a := v5) rfl)) fun v6 => 
  (js_app (e := D.int) rfl (j_fz (e := D.int) (a := v5) rfl) fun v7 => 
  (js_wp [6, 7, 8, 9, 10, 11] (js_nil rfl)))))) fun v3 => 
  (js_cold (eo := (oL D.int)) (e := (eL D.int)) rfl (js_cold (eo := (oL D.int)) (e := (eL D.int)) rfl (js_ret (fun a => a) (j_up (j_tup (jt_cons (j_fz (e := (eL D.int)) (a := v3.2.1) rfl) (jt_cons (j_fz (e := (eL D.int)) (a := v3.1) rfl) jt_nil)))) fun _ _ h => h))))))
  exact run_res (np := 4) (n := 12) rfl (by decide) rfl nb_N js
set_option maxHeartbeats 4000000 in
theorem cf_law_come : CF f_law_come (fun a : ((List (Int × Str × Int × Int × (List (Int × Int × Unit)) × Unit)) × (List Int) × (List (List (List Int))) × (List Int) × Unit) => t_law_come a.1 a.2.1 a.2.2.1 a.2.2.2.1) (aCons (sR (eL (eT (eP D.int (eP D.str (eP D.int (eP D.int (eP (eS (eT (eP D.int (eP D.int eU)))) eU)))))))) (aCons (sR (eL D.int)) (aCons (sR (eL (eL (eL D.int)))) (aCons (sR (eL D.int)) aNil)))) (qN (eL D.int)) := by
  refine cg_R fun a0 s0 h0 => cg_R fun a1 s1 h1 => cg_R fun a2 s2 h2 => cg_R fun a3 s3 h3 => cg_nil ?_
  have js : JS (kD (qN (eL D.int))) m_law_come [s0, s1, s2, s3, .un, .un, .un] (b_law_come a0 a1 a2 a3) Empty.elim := by
    unfold b_law_come m_law_come
    exact (js_set (e := (eL D.int)) (j_opT (j_listL (e := D.int) (J.AC (j_rd h3 rfl)))) fun v1 => 
  (js_set (e := (eL D.int)) (j_ixT (e' := (eL D.int)) (fun x : ((List Int) × (List Int) × Unit) => x.1) (0) (J.FC (j_op (j_call cf_law_passed (ja_cons (J.AC (j_rd h0 rfl)) C_sR (ja_cons (J.AC (j_rd h1 rfl)) C_sR (ja_cons (J.AC (j_rd h2 rfl)) C_sR (ja_cons (J.FC (j_fz (e := (eL D.int)) (a := v1) rfl)) C_sR ja_nil))))))) (fun _ => rfl) (fun _ => rfl)) fun v2 => 
  (js_forR (Eg := (fun (v3 : ((List Int) × (List Int) × Unit)) (v4 : Int) => [s0, s1, s2, s3, .fz ((eL D.int) v3.1), .fz ((eL D.int) v3.2.1), .fz (D.int v4)])) (fun v3 : ((List Int) × (List Int) × Unit) => [s0, s1, s2, s3, .fz ((eL D.int) v3.1), .fz ((eL D.int) v3.2.1), .un]) (v1, v2, ()) (j_r1 j_int) (fun _ _ => rfl) (fun v3 v4 => 
  (js_seq (En := (fun v7 : ((List Int) × (List Int) × Unit) => [s0, s1, s2, s3, .fz ((eL D.int) v7.1), .fz ((eL D.int) v7.2.1), .fz (D.int v4)])) (js_if (j_ne (e := (eL D.int)) (e' := (eL D.int)) (J.FC (j_fz (e := (eL D.int)) (a := v3.2.1) rfl)) (J.FC (j_fz (e := (eL D.int)) (a := v3.1) rfl)))
  (js_set (e := (eL D.int)) (j_fz (e := (eL D.int)) (a := v3.2.1) rfl) fun v5 => 
  (js_set (e := (eL D.int)) (j_ixT (e' := (eL D.int)) (fun x : ((List Int) × (List Int) × Unit) => x.1) (0) (J.FC (j_op (j_call cf_law_passed (ja_cons (J.AC (j_rd h0 rfl)) C_sR (ja_cons (J.AC (j_rd h1 rfl)) C_sR (ja_cons (J.AC (j_rd h2 rfl)) C_sR (ja_cons (J.FC (j_fz (e := (eL D.int)) (a := v5) rfl)) C_sR ja_nil))))))) (fun _ => rfl) (fun _ => rfl)) fun v6 => 
  (js_nil rfl)))
  (js_nil rfl)) fun v7 => 
  (js_wp [6] (js_nil rfl)))) fun v3 => 
  (js_ret (fun a => a) (j_up (j_fz (e := (eL D.int)) (a := v3.1) rfl)) fun _ _ h => h))))
  exact run_res (np := 4) (n := 7) rfl (by decide) rfl nb_N js
set_option maxHeartbeats 4000000 in
theorem cf_law_below : CF f_law_below (fun a : ((List Int) × (List Int) × Unit) => t_law_below a.1 a.2.1) (aCons (sR (eL D.int)) (aCons (sR (eL D.int)) aNil)) (qN D.bl) := by
  refine cg_R fun a0 s0 h0 => cg_R fun a1 s1 h1 => cg_nil ?_
  have js : JS (kD (qN D.bl)) m_law_below [s0, s1, .un] (b_law_below a0 a1) Empty.elim := by
    unfold b_law_below m_law_below
    exact (js_forR (Eg := (fun (v1 : Unit) (v2 : Int) => [s0, s1, .fz (D.int v2)])) (fun v1 : Unit => [s0, s1, .un]) () (j_r1 (j_lenL (e := D.int) (J.AC (j_rd h0 rfl)))) (fun _ _ => rfl) (fun v1 v2 => 
  (js_ifT (E0 := Empty.elim) (j_gt (j_ixL (J.AC (j_rd h0 rfl)) (j_fz (e := D.int) (a := v2) rfl)) (j_ixL (J.AC (j_rd h1 rfl)) (j_fz (e := D.int) (a := v2) rfl)))
  (js_ret (fun a => a) (j_up j_bl) fun _ _ h => h)
  (js_wp [2] (js_nil rfl)))) fun v1 => 
  (js_ret (fun a => a) (j_up j_bl) fun _ _ h => h))
  exact run_res (np := 2) (n := 3) rfl (by decide) rfl nb_N js
set_option maxHeartbeats 4000000 in
theorem cf_law_account : CF f_law_account (fun a : ((List (Int × Str × Int × Int × (List (Int × Int × Unit)) × Unit)) × (List Int) × Unit) => t_law_account a.1 a.2.1) (aCons (sR (eL (eT (eP D.int (eP D.str (eP D.int (eP D.int (eP (eS (eT (eP D.int (eP D.int eU)))) eU)))))))) (aCons (sR (eL D.int)) aNil)) (qT (oL D.int)) := by
  refine cg_R fun a0 s0 h0 => cg_R fun a1 s1 h1 => cg_nil ?_
  have js : JS (kD (qT (oL D.int))) m_law_account [s0, s1, .un] (b_law_account a0 a1) Empty.elim := by
    unfold b_law_account m_law_account
    exact (js_ret (fun a => a) (j_lcR (j_r1 (j_lenL (e := (eT (eP D.int (eP D.str (eP D.int (eP D.int (eP (eS (eT (eP D.int (eP D.int eU)))) eU))))))) (J.AC (j_rd h0 rfl)))) (fun v1 => j_yes) (fun v1 => (j_I (j_ixL (J.AC (j_rd h1 rfl)) (j_fz (e := D.int) (a := v1) rfl)) (j_I (j_ixT (e' := D.int) (fun x : (Int × Str × Int × Int × (List (Int × Int × Unit)) × Unit) => x.2.2.2.1) (3) (J.FC (j_ixL (J.AC (j_rd h0 rfl)) (j_fz (e := D.int) (a := v1) rfl))) (fun _ => rfl) (fun _ => rfl)) j_int)))) fun _ _ h => h)
  exact run_res (np := 2) (n := 3) rfl (by decide) rfl nb_T js
set_option maxHeartbeats 4000000 in
theorem cf_law_least : CF f_law_least (fun a : ((List (Int × Str × Int × Int × (List (Int × Int × Unit)) × Unit)) × (List Int) × (List (List (List Int))) × Unit) => t_law_least a.1 a.2.1 a.2.2.1) (aCons (sR (eL (eT (eP D.int (eP D.str (eP D.int (eP D.int (eP (eS (eT (eP D.int (eP D.int eU)))) eU)))))))) (aCons (sR (eL D.int)) (aCons (sR (eL (eL (eL D.int)))) aNil))) (qN (eL D.int)) := by
  refine cg_R fun a0 s0 h0 => cg_R fun a1 s1 h1 => cg_R fun a2 s2 h2 => cg_nil ?_
  have js : JS (kD (qN (eL D.int))) m_law_least [s0, s1, s2] (b_law_least a0 a1 a2) Empty.elim := by
    unfold b_law_least m_law_least
    exact (js_ret (fun a => a) (j_call cf_law_come (ja_cons (J.AC (j_rd h0 rfl)) C_sR (ja_cons (J.AC (j_rd h1 rfl)) C_sR (ja_cons (J.AC (j_rd h2 rfl)) C_sR (ja_cons (J.FC (j_opT (j_rep (J.FC (j_opT (j_lst (jl_cons j_int (jl_nil (e := D.int)))))) (j_lenL (e := (eT (eP D.int (eP D.str (eP D.int (eP D.int (eP (eS (eT (eP D.int (eP D.int eU)))) eU))))))) (J.AC (j_rd h0 rfl)))))) C_sR ja_nil))))) fun _ _ h => h)
  exact run_res (np := 3) (n := 3) rfl (by decide) rfl nb_N js
set_option maxHeartbeats 4000000 in
theorem cf_law_door : CF f_law_door (fun a : (Int × YTable × (List Int) × (List Int) × Unit) => t_law_door a.1 a.2.1 a.2.2.1 a.2.2.2.1) (aCons (sF D.int) (aCons (sR e_Table) (aCons (sR (eL D.int)) (aCons (sR (eL D.int)) aNil)))) (qN (eL D.bl)) := by
  refine cg_F fun a0 => cg_R fun a1 s1 h1 => cg_R fun a2 s2 h2 => cg_R fun a3 s3 h3 => cg_nil ?_
  have js : JS (kD (qN (eL D.bl))) m_law_door [.fz (D.int a0), s1, s2, s3, .un, .un] (b_law_door a0 a1 a2 a3) Empty.elim := by
    unfold b_law_door m_law_door
    exact (js_set (e := (eL D.bl)) (j_opT (j_lst (jl_nil (e := D.bl)))) fun v1 => 
  (js_seq (En := (fun v13 : ((List Bool) × Unit) => [.fz (D.int a0), s1, s2, s3, .fz ((eL D.bl) v13.1), .un])) (js_try (fun _ : Unit => [.fz (D.int a0), s1, s2, s3, .fz ((eL D.bl) v1), .un]) (fun (_ : Unit) (v12 : List Bool) => (v12, ()))
  (js_seq (En := (fun v11 : Unit => [.fz (D.int a0), s1, s2, s3, .fz ((eL D.bl) v1), .un])) (js_if (j_eq (e := D.int) (e' := D.int) (J.FC (j_fz (e := D.int) (a := a0) rfl)) (J.FC j_int))
  (js_exp (j_call cf_burdens (ja_cons (J.AC (j_rd h1 rfl)) C_sR (ja_cons (J.AC (j_rd h2 rfl)) C_sR ja_nil))) fun _ => 
  (js_nil rfl))
  (js_seq (En := (fun v10 : Unit => [.fz (D.int a0), s1, s2, s3, .fz ((eL D.bl) v1), .un])) (js_if (j_eq (e := D.int) (e' := D.int) (J.FC (j_fz (e := D.int) (a := a0) rfl)) (J.FC j_int))
  (js_exp (j_call cf_asked (ja_cons (J.AC (j_rd h1 rfl)) C_sR (ja_cons (J.AC (j_rd h2 rfl)) C_sR ja_nil))) fun _ => 
  (js_nil rfl))
  (js_seq (En := (fun v9 : Unit => [.fz (D.int a0), s1, s2, s3, .fz ((eL D.bl) v1), .un])) (js_if (j_eq (e := D.int) (e' := D.int) (J.FC (j_fz (e := D.int) (a := a0) rfl)) (J.FC j_int))
  (js_exp (j_call cf_agrees (ja_cons (J.AC (j_rd h1 rfl)) C_sR (ja_cons (J.AC (j_rd h2 rfl)) C_sR ja_nil))) fun _ => 
  (js_nil rfl))
  (js_seq (En := (fun v8 : Unit => [.fz (D.int a0), s1, s2, s3, .fz ((eL D.bl) v1), .un])) (js_if (j_eq (e := D.int) (e' := D.int) (J.FC (j_fz (e := D.int) (a := a0) rfl)) (J.FC j_int))
  (js_exp (j_call cf_backed (ja_cons (J.AC (j_rd h1 rfl)) C_sR (ja_cons (J.AC (j_rd h2 rfl)) C_sR ja_nil))) fun _ => 
  (js_nil rfl))
  (js_seq (En := (fun v7 : Unit => [.fz (D.int a0), s1, s2, s3, .fz ((eL D.bl) v1), .un])) (js_if (j_eq (e := D.int) (e' := D.int) (J.FC (j_fz (e := D.int) (a := a0) rfl)) (J.FC j_int))
  (js_exp (j_call cf_enough (ja_cons (J.AC (j_rd h1 rfl)) C_sR (ja_cons (J.AC (j_rd h2 rfl)) C_sR ja_nil))) fun _ => 
  (js_nil rfl))
  (js_seq (En := (fun v6 : Unit => [.fz (D.int a0), s1, s2, s3, .fz ((eL D.bl) v1), .un])) (js_if (j_eq (e := D.int) (e' := D.int) (J.FC (j_fz (e := D.int) (a := a0) rfl)) (J.FC j_int))
  (js_exp (j_call cf_kept (ja_cons (J.AC (j_rd h1 rfl)) C_sR (ja_cons (J.AC (j_rd h2 rfl)) C_sR ja_nil))) fun _ => 
  (js_nil rfl))
  (js_seq (En := (fun v5 : Unit => [.fz (D.int a0), s1, s2, s3, .fz ((eL D.bl) v1), .un])) (js_if (j_eq (e := D.int) (e' := D.int) (J.FC (j_fz (e := D.int) (a := a0) rfl)) (J.FC j_int))
  (js_exp (j_call cf_shows (ja_cons (J.AC (j_rd h1 rfl)) C_sR (ja_cons (J.FC (j_opT (j_lst (jl_nil (e := (eT (eP D.int (eP D.int eU)))))))) C_sR (ja_cons (J.AC (j_rd h2 rfl)) C_sR ja_nil)))) fun _ => 
  (js_nil rfl))
  (js_seq (En := (fun v4 : Unit => [.fz (D.int a0), s1, s2, s3, .fz ((eL D.bl) v1), .un])) (js_if (j_eq (e := D.int) (e' := D.int) (J.FC (j_fz (e := D.int) (a := a0) rfl)) (J.FC j_int))
  (js_exp (j_call cf_above (ja_cons (J.AC (j_rd h1 rfl)) C_sR (ja_cons (J.AC (j_rd h2 rfl)) C_sR ja_nil))) fun _ => 
  (js_nil rfl))
  (js_seq (En := (fun v3 : Unit => [.fz (D.int a0), s1, s2, s3, .fz ((eL D.bl) v1), .un])) (js_if (j_eq (e := D.int) (e' := D.int) (J.FC (j_fz (e := D.int) (a := a0) rfl)) (J.FC j_int))
  (js_exp (j_call cf_below (ja_cons (J.AC (j_rd h1 rfl)) C_sR (ja_cons (J.AC (j_rd h2 rfl)) C_sR ja_nil))) fun _ => 
  (js_nil rfl))
  (js_seq (En := (fun v2 : Unit => [.fz (D.int a0), s1, s2, s3, .fz ((eL D.bl) v1), .un])) (js_if (j_eq (e := D.int) (e' := D.int) (J.FC (j_fz (e := D.int) (a := a0) rfl)) (J.FC j_int))
  (js_exp (j_call cf_joint (ja_cons (J.AC (j_rd h1 rfl)) C_sR (ja_cons (J.AC (j_rd h2 rfl)) C_sR (ja_cons (J.AC (j_rd h3 rfl)) C_sR ja_nil)))) fun _ => 
  (js_nil rfl))
  (js_exp (j_call cf_meeting (ja_cons (J.AC (j_rd h1 rfl)) C_sR (ja_cons (J.AC (j_rd h2 rfl)) C_sR (ja_cons (J.AC (j_rd h3 rfl)) C_sR ja_nil)))) fun _ => 
  (js_nil rfl))) fun v2 => 
  (js_nil rfl))) fun v3 => 
  (js_nil rfl))) fun v4 => 
  (js_nil rfl))) fun v5 => 
  (js_nil rfl))) fun v6 => 
  (js_nil rfl))) fun v7 => 
  (js_nil rfl))) fun v8 => 
  (js_nil rfl))) fun v9 => 
  (js_nil rfl))) fun v10 => 
  (js_nil rfl))) fun v11 => 
  (js_nil rfl)) (fun _ _ => rfl) (fun _ => rfl) (fun _ => rfl) (by decide) seen_B) fun v13 => 
  (js_ret (fun a => a) (j_up (j_fz (e := (eL D.bl)) (a := v13.1) rfl)) fun _ _ h => h)))
  exact run_res (np := 4) (n := 6) rfl (by decide) rfl nb_N js
set_option maxHeartbeats 4000000 in
theorem cf_law_spoilt : CF f_law_spoilt (fun a : ((List Int) × (List Int) × (List Int) × Unit) => t_law_spoilt a.1 a.2.1 a.2.2.1) (aCons (sF (eL D.int)) (aCons (sR (eL D.int)) (aCons (sR (eL D.int)) aNil))) (qN (eL D.int)) := by
  refine cg_F fun a0 => cg_R fun a1 s1 h1 => cg_R fun a2 s2 h2 => cg_nil ?_
  have js : JS (kD (qN (eL D.int))) m_law_spoilt [.fz ((eL D.int) a0), s1, s2, .un, .un, .un] (b_law_spoilt a0 a1 a2) Empty.elim := by
    unfold b_law_spoilt m_law_spoilt
    exact (js_set (e := D.int) (j_I (j_ixL (J.AC (j_rd h2 rfl)) j_int) j_int) fun v1 => 
  (js_ifT (E0 := Empty.elim) (j_eq (e := D.int) (e' := D.int) (J.FC (j_lenL (e := D.int) (J.FC (j_fz (e := (eL D.int)) (a := a0) rfl)))) (J.FC j_int))
  (js_ret (fun a => a) (J.TN (e := (eL D.int)) (j_lst (jl_cons (j_ixL (J.AC (j_rd h2 rfl)) j_int) (jl_nil (e := D.int))))) fun _ _ h => h)
  (js_set (e := D.int) (j_I (j_ixL (J.AC (j_rd h2 rfl)) j_int) (j_lenL (e := D.int) (J.FC (j_fz (e := (eL D.int)) (a := a0) rfl)))) fun v2 => 
  (js_ifT (E0 := Empty.elim) (j_eq (e := D.int) (e' := D.int) (J.FC (j_fz (e := D.int) (a := v1) rfl)) (J.FC j_int))
  (js_ret (fun a => a) (J.TN (e := (eL D.int)) (j_cat (J.FC (j_opT (j_cat (J.FC (j_opT (j_slL (J.FC (j_fz (e := (eL D.int)) (a := a0) rfl)) jq_no (jq_some (j_fz (e := D.int) (a := v2) rfl))))) (J.FC (j_opT (j_lst (jl_cons (j_I (j_neg j_int) (j_I (j_ixL (J.AC (j_rd h2 rfl)) j_int) j_int)) (jl_nil (e := D.int))))))))) (J.FC (j_opT (j_slL (J.FC (j_fz (e := (eL D.int)) (a := a0) rfl)) (jq_some (j_I (j_fz (e := D.int) (a := v2) rfl) j_int)) jq_no))))) fun _ _ h => h)
  (js_ifT (E0 := Empty.elim) (j_eq (e := D.int) (e' := D.int) (J.FC (j_fz (e := D.int) (a := v1) rfl)) (J.FC j_int))
  (js_set (e := D.int) (j_I (j_I (j_ixL (J.AC (j_rd h1 rfl)) (j_fz (e := D.int) (a := v2) rfl)) j_int) (j_I (j_ixL (J.AC (j_rd h2 rfl)) j_int) j_int)) fun v3 => 
  (js_ret (fun a => a) (J.TN (e := (eL D.int)) (j_cat (J.FC (j_opT (j_cat (J.FC (j_opT (j_slL (J.FC (j_fz (e := (eL D.int)) (a := a0) rfl)) jq_no (jq_some (j_fz (e := D.int) (a := v2) rfl))))) (J.FC (j_opT (j_lst (jl_cons (j_fz (e := D.int) (a := v3) rfl) (jl_nil (e := D.int))))))))) (J.FC (j_opT (j_slL (J.FC (j_fz (e := (eL D.int)) (a := a0) rfl)) (jq_some (j_I (j_fz (e := D.int) (a := v2) rfl) j_int)) jq_no))))) fun _ _ h => h))
  (js_ifT (E0 := Empty.elim) (j_eq (e := D.int) (e' := D.int) (J.FC (j_fz (e := D.int) (a := v1) rfl)) (J.FC j_int))
  (js_ret (fun a => a) (J.TN (e := (eL D.int)) (j_cat (J.FC (j_opT (j_cat (J.FC (j_opT (j_slL (J.FC (j_fz (e := (eL D.int)) (a := a0) rfl)) jq_no (jq_some (j_fz (e := D.int) (a := v2) rfl))))) (J.FC (j_opT (j_lst (jl_cons j_int (jl_nil (e := D.int))))))))) (J.FC (j_opT (j_slL (J.FC (j_fz (e := (eL D.int)) (a := a0) rfl)) (jq_some (j_fz (e := D.int) (a := v2) rfl)) jq_no))))) fun _ _ h => h)
  (js_ifT (E0 := Empty.elim) (j_eq (e := D.int) (e' := D.int) (J.FC (j_fz (e := D.int) (a := v1) rfl)) (J.FC j_int))
  (js_ret (fun a => a) (J.TN (e := (eL D.int)) (j_cat (J.FC (j_opT (j_slL (J.FC (j_fz (e := (eL D.int)) (a := a0) rfl)) jq_no (jq_some (j_fz (e := D.int) (a := v2) rfl))))) (J.FC (j_opT (j_slL (J.FC (j_fz (e := (eL D.int)) (a := a0) rfl)) (jq_some (j_I (j_fz (e := D.int) (a := v2) rfl) j_int)) jq_no))))) fun _ _ h => h)
  (js_ifT (E0 := Empty.elim) (j_eq (e := D.int) (e' := D.int) (J.FC (j_fz (e := D.int) (a := v1) rfl)) (J.FC j_int))
  (js_ret (fun a => a) (J.TN (e := (eL D.int)) (j_cat (J.FC (j_opT (j_cat (J.FC (j_opT (j_slL (J.FC (j_fz (e := (eL D.int)) (a := a0) rfl)) jq_no (jq_some (j_fz (e := D.int) (a := v2) rfl))))) (J.FC (j_opT (j_lst (jl_cons (j_I j_int j_int) (jl_nil (e := D.int))))))))) (J.FC (j_opT (j_slL (J.FC (j_fz (e := (eL D.int)) (a := a0) rfl)) (jq_some (j_I (j_fz (e := D.int) (a := v2) rfl) j_int)) jq_no))))) fun _ _ h => h)
  (js_ret (fun a => a) (j_up (j_fz (e := (eL D.int)) (a := a0) rfl)) fun _ _ h => h)))))))))
  exact run_res (np := 3) (n := 6) rfl (by decide) rfl nb_N js
set_option maxHeartbeats 4000000 in
theorem cf_law : CF f_law (fun a : ((List Int) × Unit) => t_law a.1) (aCons (sF D.scr) aNil) (qN D.bl) := by
  refine cg_F fun a0 => cg_nil ?_
  have js : JS (kD (qN D.bl)) m_law [.fz (D.scr a0), .un, .un, .un, .un, .un, .un, .un, .un, .un, .un, .un, .un, .un, .un, .un, .un] (b_law a0) Empty.elim := by
    unfold b_law m_law
    exact (js_set (e := (eL D.int)) (j_opT (j_call cf_law_draws (ja_cons (j_fz (e := D.scr) (a := a0) rfl) F_sF (ja_cons j_int F_sF ja_nil)))) fun v1 => 
  (js_unp (e := (eT (eP D.int (eP (eL (eT (eP D.int (eP D.str (eP D.int (eP D.int (eP (eS (eT (eP D.int (eP D.int eU)))) eU))))))) (eP (eL D.int) eU))))) (Eg := (fun v2 : (Int × (List (Int × Str × Int × Int × (List (Int × Int × Unit)) × Unit)) × (List Int) × Unit) => [.fz (D.scr a0), .fz ((eL D.int) v1), .fz (D.int v2.1), .fz ((eL (eT (eP D.int (eP D.str (eP D.int (eP D.int (eP (eS (eT (eP D.int (eP D.int eU)))) eU))))))) v2.2.1), .fz ((eL D.int) v2.2.2.1), .un, .un, .un, .un, .un, .un, .un, .un, .un, .un, .un, .un])) (j_op (j_call cf_law_made (ja_cons (J.FC (j_fz (e := (eL D.int)) (a := v1) rfl)) C_sR ja_nil))) (fun _ => rfl) fun v2 => 
  (js_set (e := e_Table) (j_opT (j_make cf_Table___init__ (ja_cons (j_fz (e := D.int) (a := v2.1) rfl) F_sF (ja_cons (J.FC (j_fz (e := (eL (eT (eP D.int (eP D.str (eP D.int (eP D.int (eP (eS (eT (eP D.int (eP D.int eU)))) eU)))))))) (a := v2.2.1) rfl)) C_sR (ja_cons (J.FC (j_fz (e := (eL D.int)) (a := v2.2.2.1) rfl)) C_sR ja_nil))))) fun v3 => 
  (js_set (e := (eL D.int)) (j_opT (j_lcL (e := (eT (eP D.int (eP D.str (eP D.int (eP D.int (eP (eS (eT (eP D.int (eP D.int eU)))) eU))))))) (J.FA (j_fz (e := (eL (eT (eP D.int (eP D.str (eP D.int (eP D.int (eP (eS (eT (eP D.int (eP D.int eU)))) eU)))))))) (a := v2.2.1) rfl)) (fun v5 => j_yes) (fun v5 => (j_ixT (e' := D.int) (fun x : (Int × Str × Int × Int × (List (Int × Int × Unit)) × Unit) => x.2.2.2.1) (3) (J.FC (j_fz (e := (eT (eP D.int (eP D.str (eP D.int (eP D.int (eP (eS (eT (eP D.int (eP D.int eU)))) eU))))))) (a := v5) rfl)) (fun _ => rfl) (fun _ => rfl))))) fun v4 => 
  (js_set (e := (eL D.int)) (j_op (j_call cf_law_least (ja_cons (J.FC (j_fz (e := (eL (eT (eP D.int (eP D.str (eP D.int (eP D.int (eP (eS (eT (eP D.int (eP D.int eU)))) eU)))))))) (a := v2.2.1) rfl)) C_sR (ja_cons (J.FC (j_fz (e := (eL D.int)) (a := v2.2.2.1) rfl)) C_sR (ja_cons (J.FC (j_opT (j_call cf_law_splits (ja_cons (J.FC (j_fz (e := (eL (eT (eP D.int (eP D.str (eP D.int (eP D.int (eP (eS (eT (eP D.int (eP D.int eU)))) eU)))))))) (a := v2.2.1) rfl)) C_sR ja_nil)))) C_sR ja_nil))))) fun v6 => 
  (js_set (e := (eL D.int)) (j_opT (j_call cf_law_account (ja_cons (J.FC (j_fz (e := (eL (eT (eP D.int (eP D.str (eP D.int (eP D.int (eP (eS (eT (eP D.int (eP D.int eU)))) eU)))))))) (a := v2.2.1) rfl)) C_sR (ja_cons (J.FC (j_opT (j_slL (J.FC (j_fz (e := (eL D.int)) (a := v1) rfl)) (jq_some j_int) (jq_some j_int)))) C_sR ja_nil)))) fun v7 => 
  (js_set (e := (eL D.int)) (j_opT (j_call cf_law_account (ja_cons (J.FC (j_fz (e := (eL (eT (eP D.int (eP D.str (eP D.int (eP D.int (eP (eS (eT (eP D.int (eP D.int eU)))) eU)))))))) (a := v2.2.1) rfl)) C_sR (ja_cons (J.FC (j_opT (j_slL (J.FC (j_fz (e := (eL D.int)) (a := v1) rfl)) (jq_some j_int) (jq_some j_int)))) C_sR ja_nil)))) fun v8 => 
  (js_set (e := (eL D.int)) (j_op (j_call cf_law_spoilt (ja_cons (j_fz (e := (eL D.int)) (a := v8) rfl) F_sF (ja_cons (J.FC (j_fz (e := (eL D.int)) (a := v4) rfl)) C_sR (ja_cons (J.FC (j_opT (j_slL (J.FC (j_fz (e := (eL D.int)) (a := v1) rfl)) (jq_some j_int) (jq_some j_int)))) C_sR ja_nil))))) fun v9 => 
  (js_set (e := (eL D.bl)) (j_opT (j_call cf_law_due (ja_cons j_str F_sF ja_nil))) fun v10 => 
  (js_seq (En := (fun v13 : ((List Bool) × Unit) => [.fz (D.scr a0), .fz ((eL D.int) v1), .fz (D.int v2.1), .fz ((eL (eT (eP D.int (eP D.str (eP D.int (eP D.int (eP (eS (eT (eP D.int (eP D.int eU)))) eU))))))) v2.2.1), .fz ((eL D.int) v2.2.2.1), .fz (e_Table v3), .fz ((eL D.int) v4), .un, .fz ((eL D.int) v6), .fz ((eL D.int) v7), .fz ((eL D.int) v9), .fz ((eL D.bl) v13.1), .un, .un, .un, .un, .un])) (js_if (jb_and (j_eq (e := D.int) (e' := D.int) (J.FC (j_lenL (e := D.int) (J.FC (j_fz (e := (eL D.int)) (a := v9) rfl)))) (J.FC (j_lenL (e := D.int) (J.FC (j_fz (e := (eL D.int)) (a := v4) rfl))))) (j_bl? (j_op (j_call cf_law_below (ja_cons (J.FC (j_fz (e := (eL D.int)) (a := v9) rfl)) C_sR (ja_cons (J.FC (j_fz (e := (eL D.int)) (a := v4) rfl)) C_sR ja_nil))))))
  (js_seq (En := (fun v12 : ((List Bool) × Unit) => [.fz (D.scr a0), .fz ((eL D.int) v1), .fz (D.int v2.1), .fz ((eL (eT (eP D.int (eP D.str (eP D.int (eP D.int (eP (eS (eT (eP D.int (eP D.int eU)))) eU))))))) v2.2.1), .fz ((eL D.int) v2.2.2.1), .fz (e_Table v3), .fz ((eL D.int) v4), .un, .fz ((eL D.int) v6), .fz ((eL D.int) v7), .fz ((eL D.int) v9), .fz ((eL D.bl) v12.1), .un, .un, .un, .un, .un])) (js_if (j_bl? (j_op (j_call cf_law_below (ja_cons (J.FC (j_opT (j_rep (J.FC (j_opT (j_lst (jl_cons j_int (jl_nil (e := D.int)))))) (j_lenL (e := D.int) (J.FC (j_fz (e := (eL D.int)) (a := v9) rfl)))))) C_sR (ja_cons (J.FC (j_fz (e := (eL D.int)) (a := v9) rfl)) C_sR ja_nil)))))
  (js_set (e := (eL D.bl)) (j_opT (j_lst (jl_nil (e := D.bl)))) fun v11 => 
  (js_nil rfl))
  (js_nil rfl)) fun v12 => 
  (js_nil rfl))
  (js_nil rfl)) fun v13 => 
  (js_forR (Eg := (fun (v14 : Unit) (v15 : Int) => [.fz (D.scr a0), .fz ((eL D.int) v1), .fz (D.int v2.1), .fz ((eL (eT (eP D.int (eP D.str (eP D.int (eP D.int (eP (eS (eT (eP D.int (eP D.int eU)))) eU))))))) v2.2.1), .fz ((eL D.int) v2.2.2.1), .fz (e_Table v3), .fz ((eL D.int) v4), .un, .fz ((eL D.int) v6), .fz ((eL D.int) v7), .fz ((eL D.int) v9), .fz ((eL D.bl) v13.1), .fz (D.int v15), .un, .un, .un, .un])) (fun v14 : Unit => [.fz (D.scr a0), .fz ((eL D.int) v1), .fz (D.int v2.1), .fz ((eL (eT (eP D.int (eP D.str (eP D.int (eP D.int (eP (eS (eT (eP D.int (eP D.int eU)))) eU))))))) v2.2.1), .fz ((eL D.int) v2.2.2.1), .fz (e_Table v3), .fz ((eL D.int) v4), .un, .fz ((eL D.int) v6), .fz ((eL D.int) v7), .fz ((eL D.int) v9), .fz ((eL D.bl) v13.1), .un, .un, .un, .un, .un]) () (j_r1 j_int) (fun _ _ => rfl) (fun v14 v15 => 
  (js_set (e := (eL D.bl)) (j_op (j_call cf_law_door (ja_cons (j_fz (e := D.int) (a := v15) rfl) F_sF (ja_cons (J.FC (j_fz (e := e_Table) (a := v3) rfl)) C_sR (ja_cons (J.FC (j_opT (j_listL (e := D.int) (J.FC (j_fz (e := (eL D.int)) (a := v9) rfl))))) C_sR (ja_cons (J.FC (j_opT (j_listL (e := D.int) (J.FC (j_fz (e := (eL D.int)) (a := v6) rfl))))) C_sR ja_nil)))))) fun v16 => 
  (js_set (e := (eL D.bl)) (j_op (j_call cf_law_door (ja_cons (j_fz (e := D.int) (a := v15) rfl) F_sF (ja_cons (J.FC (j_fz (e := e_Table) (a := v3) rfl)) C_sR (ja_cons (J.FC (j_opT (j_listL (e := D.int) (J.FC (j_fz (e := (eL D.int)) (a := v6) rfl))))) C_sR (ja_cons (J.FC (j_opT (j_listL (e := D.int) (J.FC (j_fz (e := (eL D.int)) (a := v9) rfl))))) C_sR ja_nil)))))) fun v17 => 
  (js_set (e := (eL D.bl)) (j_op (j_call cf_law_door (ja_cons (j_fz (e := D.int) (a := v15) rfl) F_sF (ja_cons (J.FC (j_fz (e := e_Table) (a := v3) rfl)) C_sR (ja_cons (J.FC (j_opT (j_listL (e := D.int) (J.FC (j_fz (e := (eL D.int)) (a := v9) rfl))))) C_sR (ja_cons (J.FC (j_opT (j_listL (e := D.int) (J.FC (j_fz (e := (eL D.int)) (a := v9) rfl))))) C_sR ja_nil)))))) fun v18 => 
  (js_set (e := (eL D.bl)) (j_op (j_call cf_law_door (ja_cons (j_fz (e := D.int) (a := v15) rfl) F_sF (ja_cons (J.FC (j_fz (e := e_Table) (a := v3) rfl)) C_sR (ja_cons (J.FC (j_opT (j_listL (e := D.int) (J.FC (j_fz (e := (eL D.int)) (a := v7) rfl))))) C_sR (ja_cons (J.FC (j_opT (j_listL (e := D.int) (J.FC (j_fz (e := (eL D.int)) (a := v9) rfl))))) C_sR ja_nil)))))) fun v19 => 
  (js_ifT (E0 := Empty.elim) (jb_and (j_eq (e := (eL D.bl)) (e' := (eL D.bl)) (J.FC (j_fz (e := (eL D.bl)) (a := v13.1) rfl)) (J.FC (j_opT (j_lst (jl_nil (e := D.bl)))))) (jb_and (j_in (e := D.int) (e' := (eS D.int)) (j_fz (e := D.int) (a := v15) rfl) (J.FC (j_tupS (jl_cons j_int (jl_cons j_int (jl_cons j_int (jl_cons j_int (jl_cons j_int (jl_cons j_int (jl_nil (e := D.int))))))))))) (j_ne (e := (eL D.bl)) (e' := (eL D.bl)) (J.FC (j_fz (e := (eL D.bl)) (a := v16) rfl)) (J.FC (j_opT (j_lst (jl_nil (e := D.bl))))))))
  (js_ret (fun a => a) (j_up j_bl) fun _ _ h => h)
  (js_ifT (E0 := Empty.elim) (jb_and (j_ne (e := (eL D.bl)) (e' := (eL D.bl)) (J.FC (j_fz (e := (eL D.bl)) (a := v13.1) rfl)) (J.FC (j_opT (j_lst (jl_nil (e := D.bl)))))) (jb_or (j_ne (e := (eL D.bl)) (e' := (eL D.bl)) (J.FC (j_fz (e := (eL D.bl)) (a := v16) rfl)) (J.FC (j_fz (e := (eL D.bl)) (a := v13.1) rfl))) (j_ne (e := (eL D.bl)) (e' := (eL D.bl)) (J.FC (j_fz (e := (eL D.bl)) (a := v18) rfl)) (J.FC (j_fz (e := (eL D.bl)) (a := v13.1) rfl)))))
  (js_ret (fun a => a) (j_up j_bl) fun _ _ h => h)
  (js_ifT (E0 := Empty.elim) (jb_and (j_ne (e := (eL D.bl)) (e' := (eL D.bl)) (J.FC (j_fz (e := (eL D.bl)) (a := v13.1) rfl)) (J.FC (j_opT (j_lst (jl_nil (e := D.bl)))))) (jb_and (j_gt (j_fz (e := D.int) (a := v15) rfl) j_int) (jb_or (j_ne (e := (eL D.bl)) (e' := (eL D.bl)) (J.FC (j_fz (e := (eL D.bl)) (a := v17) rfl)) (J.FC (j_fz (e := (eL D.bl)) (a := v13.1) rfl))) (j_ne (e := (eL D.bl)) (e' := (eL D.bl)) (J.FC (j_fz (e := (eL D.bl)) (a := v19) rfl)) (J.FC (j_fz (e := (eL D.bl)) (a := v13.1) rfl))))))
  (js_ret (fun a => a) (j_up j_bl) fun _ _ h => h)
  (js_ifT (E0 := Empty.elim) (j_ne (e := (eL D.bl)) (e' := (eL D.bl)) (J.FC (j_op (j_call cf_law_door (ja_cons (j_fz (e := D.int) (a := v15) rfl) F_sF (ja_cons (J.FC (j_fz (e := e_Table) (a := v3) rfl)) C_sR (ja_cons (J.FC (j_opT (j_listL (e := D.int) (J.FC (j_fz (e := (eL D.int)) (a := v6) rfl))))) C_sR (ja_cons (J.FC (j_opT (j_listL (e := D.int) (J.FC (j_fz (e := (eL D.int)) (a := v6) rfl))))) C_sR ja_nil))))))) (J.FC (j_opT (j_lst (jl_nil (e := D.bl))))))
  (js_ret (fun a => a) (j_up j_bl) fun _ _ h => h)
  (js_wp [12, 13, 14, 15, 16] (js_nil rfl))))))))))) fun v14 => 
  (js_ret (fun a => a) (j_up j_bl) fun _ _ h => h))))))))))))
  exact run_res (np := 1) (n := 17) rfl (by decide) rfl nb_N js
end RC
set_option Elab.async false
set_option linter.all false
set_option maxRecDepth 100000
set_option maxHeartbeats 1000000
namespace RC
open PySem PySem.Spec PyProof.Rows L2
/-! lines and covers -/
theorem tIf_tt {β σ ρ ε : Type} (e : ε) (a b : TF β σ ρ ε) : tIf e (.ok true) a b = a := rfl
theorem tIf_ff {β σ ρ ε : Type} (e : ε) (a b : TF β σ ρ ε) : tIf e (.ok false) a b = b := rfl
theorem are_loop {b : List Int × Unit → Int × Int × Unit → TF (List Int × Unit) (List Int × Unit) Bool Unit} (hb : ∀ seen p, seen.length ≤ 100 → b (seen, ()) p = if (decide (p.1 < 0) || (decide (6 ≤ p.1) || (decide (p.1 ∈ seen) || (decide (p.2.1 < 1) || decide (20 < p.2.1))))) = true then .rt false else .nx (seen ++ [p.1], ())) :
    ∀ (ls : Ln) (seen : List Int), seen.length + ls.length ≤ 100 → ∃ s, (tFor b ls (seen, ()) : TF Unit (List Int × Unit) Bool Unit) = if goodFrom seen ls = true then .nx s else .rt false
  | [], seen, _ => ⟨(seen, ()), rfl⟩
  | p :: ps, seen, h => by
    rw [List.length_cons] at h
    obtain ⟨s, hs⟩ := are_loop hb ps (seen ++ [p.1]) (by simp; omega)
    refine ⟨s, ?_⟩
    unfold tFor goodFrom
    rw [hb seen p (by omega)]
    cases hc : (decide (p.1 < 0) || (decide (6 ≤ p.1) || (decide (p.1 ∈ seen) || (decide (p.2.1 < 1) || decide (20 < p.2.1))))) with
    | true => simp
    | false => simpa using hs
theorem are_lines_eq (ls : Ln) : t_are_lines ls = .ok (areL ls) := by
  unfold t_are_lines b_are_lines areL
  by_cases h1 : 1 ≤ ls.length ∧ ls.length ≤ 4
  · have c1 : ¬ ((ls.length : Int) < 1) := by omega
    have c2 : ¬ (4 < (ls.length : Int)) := by omega
    simp only [tLen_ok, tI_ok, iLt_eq, iGt_eq, of_some, c1, c2, decide_false, tOr_f, tIf_ff, thn_ok]
    obtain ⟨s, hs⟩ := are_loop (b := b_are_lines_l1) (fun seen p hs => by
        unfold b_are_lines_l1
        simp [dIn_ints, tApp_ok (show seen.length < 16777216 by omega)]) ls [] (by simp; omega)
    rw [hs]
    cases goodFrom [] ls <;> simp [h1]
  · have : decide ((ls.length : Int) < 1) = true ∨ decide (4 < (ls.length : Int)) = true := by simp only [decide_eq_true_iff]; omega
    have c : (decide ((ls.length : Int) < 1) || decide (4 < (ls.length : Int))) = true := by rw [Bool.or_eq_true]; exact this
    simp only [tLen_ok, tI_ok, iLt_eq, iGt_eq, of_some, tOr_ok, c, tIf_tt, thn_ok, abs_rt, res_rt, h1, decide_false, Bool.false_and]
theorem iMul_b {i j : Int} (h : -4000000000 ≤ i ∧ i ≤ 4000000000) : iMul i j = some (i * j) := iMul_l (by omega) (by omega)
theorem iMul_c {i j : Int} (h : -4000000000 ≤ j ∧ j ≤ 4000000000) : iMul i j = some (i * j) := iMul_r (by omega) (by omega)
theorem pick_eq {ls : Ln} {bs : List Int} {b a : Nat} (hb : b < ls.length) (ha : a < ls.length) (hl : bs.length = ls.length) (sm : ∀ i, 0 ≤ bI bs i ∧ bI bs i ≤ 1000) :
    tI iLt (tI iMul (tI iAdd (tIx (Res.ok bs) (Res.ok (a : Int))) (Res.ok (1 : Int))) ((tIx (Res.ok ls) (Res.ok (b : Int))).map (fun x : (Int × Int × Unit) => x.2.1))) (tI iMul (tI iAdd (tIx (Res.ok bs) (Res.ok (b : Int))) (Res.ok (1 : Int))) ((tIx (Res.ok ls) (Res.ok (a : Int))).map (fun x : (Int × Int × Unit) => x.2.1))) =
      .ok (decide ((bI bs a + 1) * lW ls b < (bI bs b + 1) * lW ls a)) := by
  have b1 := sm a
  have b2 := sm b
  rw [tIx_bI rfl (by omega), tIx_bI rfl (by omega), tIx_nat rfl (get_line hb), tIx_nat rfl (get_line ha)]
  simp only [tI_ok, iAdd_eq, of_some, map_ok]
  rw [iMul_b (i := bI bs a + 1) (by omega), iMul_b (i := bI bs b + 1) (by omega)]
  rfl
theorem foremost_eq {ls : Ln} {bs : List Int} (h1 : 1 ≤ ls.length) (h4 : ls.length ≤ 1000) (hl : bs.length = ls.length) (sm : ∀ i, 0 ≤ bI bs i ∧ bI bs i ≤ 1000) : t_foremost ls bs = .ok (foremost ls bs : Nat) := by
  unfold t_foremost b_foremost
  rw [tLen_ok, tR2_int ⟨by omega, by omega, by omega, by omega⟩]
  simp only [thn_ok]
  have e1 : ((ls.length : Int) - 1).toNat = ls.length - 1 := by omega
  rw [e1, tFor_rng (s0 := ((0 : Int), ())) (fun i => (((foldp ls bs 1 i 0 : Nat) : Int), ())) rfl (fun i hi => .inl ?_)]
  · rw [foremost_from1 h1]; rfl
  · have hp : foldp ls bs 1 i 0 < ls.length := foldp_lt (by omega) _ (by omega)
    have e2 : (1 : Int) + (i : Int) = ((1 + i : Nat) : Int) := by omega
    simp only [e2]
    unfold b_foremost_l1
    rw [pick_eq hp (by omega) hl sm, foldp_succ]
    simp only [tIf_ok, pick, decide_eq_true_iff]
    split <;> rfl
theorem rep_flat (n : Nat) : (List.replicate n [(0 : Int)]).flatten = List.replicate n 0 := by
  induction n with
  | zero => rfl
  | succ n ih => rw [List.replicate_succ, List.flatten_cons, ih, List.replicate_succ]; rfl
theorem tRep_zero (n : Nat) (h : n ≤ 1000) : tRep (tCons (Res.ok (0 : Int)) (Res.ok [])) (.ok (n : Int)) = .ok (List.replicate n 0) := by
  rw [tCons_ok, tRep_ok, if_pos (repOk_of ⟨by omega, by omega⟩ (by simp; omega)), Int.toNat_natCast, rep_flat]
theorem grown_parts_eq {ls : Ln} (g : 1 ≤ ls.length ∧ ls.length ≤ 1000) {m : Int} {n : Nat} (hm : m = (n : Int)) (hn : n ≤ 1000) : t_grown_parts ls m = .ok (rowsOf ls n) := by
  subst hm
  unfold t_grown_parts b_grown_parts
  rw [tLen_ok, tRep_zero _ g.2]
  simp only [thn_ok, tCons_ok]
  rw [tR1_nat (by omega)]
  simp only [thn_ok]
  rw [tFor_rng (s0 := (List.replicate ls.length 0, [List.replicate ls.length 0], ())) (fun i => (dealt ls i, rowsOf ls i, ())) rfl (fun i hi => .inl ?_)]
  · rfl
  · have hl := dealt_len ls i
    have hf : foremost ls (dealt ls i) < ls.length := foremost_lt g.1
    unfold b_grown_parts_l1
    simp only [tPair_ok, bind_ok]
    rw [foremost_eq g.1 g.2 hl fun j => by have := dealt_bd ls i j; omega]
    rw [tAugI_ok rfl (get_bI (by omega))]
    simp only [thn_ok]
    rw [show (dealt ls i).set (foremost ls (dealt ls i)) (bI (dealt ls i) (foremost ls (dealt ls i)) + 1) = dealt ls (i + 1) from rfl, tAppn_ok, tApp_ok (by rw [rowsOf_len]; omega), rowsOf_succ]
    rfl
theorem dEq_lit {x y : Str} (hx : PyData.strOk x = true) (hy : PyData.strOk y = true) : dEq (.str x) (.str y) = some (decide (x = y)) := Eqv.str.eq hx hy
theorem ok_share : PyData.strOk "share" = true := by decide +kernel
theorem ok_layer : PyData.strOk "layer" = true := by decide +kernel
theorem ok_kind {k : Str} {b : Int} (h : byOk k b = true) : PyData.strOk k = true := by
  rcases byOk_kind h with rfl | rfl
  · exact ok_share
  · exact ok_layer
theorem is_by_eq {k : Str} (hk : PyData.strOk k = true) (b : Int) : t_is_by k b = .ok (byOk k b) := by
  unfold t_is_by b_is_by byOk
  simp only [tD_ok, dEq_lit hk ok_share, dEq_lit hk ok_layer, of_some, tIf_ok, decide_eq_true_iff, tI_ok, iGe_eq, iLe_eq, tAnd_ok, thn_ok, abs_rt]
  split <;> simp
theorem taken_eq {k : Str} (hk : PyData.strOk k = true) {b m r : Int} (hb : -1000000 ≤ b ∧ b ≤ 1000000) : t_taken k b m r = .ok (tk k b m r) := by
  unfold t_taken b_taken tk
  simp only [tD_ok, dEq_lit hk ok_share, of_some, tIf_ok, decide_eq_true_iff, tI_ok, iSub_eq, tMax_ok, tMin_ok, thn_ok, abs_rt]
  rw [iMul_c (i := r) (j := b) (by omega)]
  simp only [of_some, tI_ok]
  rw [iDiv_pos (by omega) (by omega)]
  split <;> rfl
theorem is_cover_eq {n : Int} {c : Cov} (hk : PyData.strOk (cK c) = true) : t_is_cover n c = .ok (isCov n c) := by
  unfold t_is_cover b_is_cover isCov
  simp only [map_ok, tD_ok, dNe_int, of_some, beq_self_eq_true, Bool.not_true, tIf_ff, thn_ok, tI_ok, iLt_eq, iGe_eq, iGt_eq, tPair_ok, bind_ok]
  rw [is_by_eq hk, are_lines_eq]
  simp only [tNot_ok, tOr_ok, tIf_ok]
  by_cases h1 : c.1 < 0
  · simp [h1, show ¬ (0 ≤ c.1) by omega]
  by_cases h2 : n ≤ c.1
  · simp [h2, show ¬ (c.1 < n) by omega]
  cases h3 : byOk c.2.1 c.2.2.1 with
  | false => simp [h3]
  | true =>
    by_cases h4 : c.2.2.2.1 < 0
    · simp [h4, show ¬ (0 ≤ c.2.2.2.1) by omega]
    by_cases h5 : 24 < c.2.2.2.1
    · simp [h5, show ¬ (c.2.2.2.1 ≤ 24) by omega]
    cases h6 : areL c.2.2.2.2.1 with
    | false => simp [h6]
    | true =>
      simp only [h1, h2, h4, h5, decide_false, Bool.not_true, Bool.or_false, Bool.false_eq_true, if_false]
      rw [tFor_look (fun p : Int × Int × Unit => !(decide (p.1 < n) && decide (p.1 ≠ c.1))) false (fun p hp => by
        unfold b_is_cover_l1
        simp only [tD_ok, dEq_int, of_some, tOr_ok, tIf_ok]
        by_cases e1 : n ≤ p.1
        · simp [e1, show ¬ (p.1 < n) by omega]
        · by_cases e2 : p.1 = c.1
          · simp [e1, e2]
          · simp [e1, e2, show p.1 < n by omega])]
      have e3 : (c.2.2.2.2.1.any fun p : Int × Int × Unit => !(decide (p.1 < n) && decide (p.1 ≠ c.1))) = !(c.2.2.2.2.1.all fun p => decide (p.1 < n) && decide (p.1 ≠ c.1)) := by rw [List.not_all_eq_any_not]
      rw [e3]
      cases hh : (c.2.2.2.2.1.all fun p => decide (p.1 < n) && decide (p.1 ≠ c.1)) with
      | false => simp
      | true => simp [show (0 : Int) ≤ c.1 by omega, show c.1 < n by omega, show (0 : Int) ≤ c.2.2.2.1 by omega, show c.2.2.2.1 ≤ 24 by omega]
/-! tables -/
def rowsS (cs : List Cov) : List (List (List Int)) := cs.map fun c => rowsOf (cL c) (cM c).toNat
/-- a table of such houses, covers, losses -/
def mkT (n : Nat) (cs : List Cov) (bef : List Int) : YTable := ⟨n, cs, bef, rowsS cs⟩
theorem look_houses_eq (n : Int) : t_look_houses n = if 1 ≤ n ∧ n ≤ 6 then .ok () else .rs ⟨"BadHouses", none⟩ := by
  unfold t_look_houses b_look_houses
  simp only [tI_ok, iLt_eq, iGt_eq, of_some, tOr_ok, tIf_ok, Bool.or_eq_true, decide_eq_true_iff]
  by_cases h : 1 ≤ n ∧ n ≤ 6
  · rw [if_neg (by omega), if_pos h]; rfl
  · rw [if_pos (by omega), if_neg h]; rfl
theorem tLc_map {α β : Type} {te : α → Res β} {xs : List α} (f : α → β) (hl : xs.length ≤ 100000) (h : ∀ a ∈ xs, te a = .ok (f a)) : tLc (fun _ => .ok true) te (.ok xs) = .ok (xs.map f) := tLc_m f (by omega) h
def noCov (m : Int) (cs : List Cov) : Bool := decide (10 < cs.length) || cs.any fun c => !isCov m c
def noLoss (m : Int) (bef : List Int) : Bool := !decide ((bef.length : Int) = m) || bef.any fun x => decide (x < 0) || decide (9999 < x)
/-- what is no table, and a table -/
theorem table_init {cs : List Cov} (hk : ∀ c ∈ cs, PyData.strOk (cK c) = true) (hl : cs.length ≤ 1000) {m : Int} {bef : List Int} : t_Table___init__ m cs bef =
    if 1 ≤ m ∧ m ≤ 6 then (if noCov m cs = true then .rs ⟨"BadCover", none⟩ else if noLoss m bef = true then .rs ⟨"BadLosses", none⟩ else .ok ⟨m, cs, bef, rowsS cs⟩) else .rs ⟨"BadHouses", none⟩ := by
  unfold t_Table___init__ b_Table___init__ noCov noLoss
  simp only [tPair_ok, bind_ok, look_houses_eq]
  by_cases h1 : 1 ≤ m ∧ m ≤ 6
  · simp only [if_pos h1, thn_ok, tLen_ok, tI_ok, iGt_eq, of_some, tIf_ok, decide_eq_true_iff]
    by_cases h2 : 10 < cs.length
    · rw [if_pos (by omega), if_pos (by simp [h2])]; rfl
    · rw [if_neg (by omega), tFor_lookx (fun c => !isCov m c) ⟨"BadCover", none⟩ () (fun c hc => by
        unfold b_Table___init___l1
        simp only [tPair_ok, bind_ok, is_cover_eq (hk c hc), tNot_ok, tIf_ok]
        cases isCov m c <;> rfl)]
      simp only [h2, decide_false, Bool.false_or]
      cases h3 : cs.any fun c => !isCov m c with
      | true => rfl
      | false =>
        simp only [Bool.false_eq_true, if_false, bind_nx, tD_ok, dNe_int, of_some, tIf_ok]
        by_cases h4 : (bef.length : Int) = m
        · have e4 : (!((bef.length : Int) == m)) = false := by simp [h4]
          rw [e4, if_neg (by decide), tFor_lookx (fun x => decide (x < 0) || decide (9999 < x)) ⟨"BadLosses", none⟩ () (fun x hx => by
            unfold b_Table___init___l2
            simp only [tI_ok, iLt_eq, iGt_eq, of_some, tOr_ok, tIf_ok, abs_rs])]
          simp only [h4, decide_true, Bool.not_true, Bool.false_or]
          cases h5 : bef.any fun x => decide (x < 0) || decide (9999 < x) with
          | true => rfl
          | false =>
            have h3' : ∀ c ∈ cs, CovOk m c := fun c hc => by
              have := List.any_eq_false.mp h3 c hc
              exact (isCov_iff m c).mp (by simpa using this)
            simp only [Bool.false_eq_true, if_false, bind_nx, thn_ok]
            rw [tLc_map (fun c => rowsOf (cL c) (cM c).toNat) (by omega) (fun c hc => by
              have hc' := h3' c hc
              have hg := hc'.lines.good
              have hm : 0 ≤ c.2.2.2.1 ∧ c.2.2.2.1 ≤ 24 := hc'.most
              unfold b_Table___init___c1
              simp only [map_ok, tPair_ok, bind_ok]
              exact grown_parts_eq (ls := cL c) ⟨hg.pos, by have := hg.few; omega⟩ (n := c.2.2.2.1.toNat) (by omega) (by omega))]
            rfl
        · have e4 : (!((bef.length : Int) == m)) = true := by simp [h4]
          rw [e4, if_pos rfl]
          simp only [h4, decide_false, Bool.not_false, Bool.true_or]
          rfl
  · simp only [if_neg h1, thn_rs, resI_rs]
theorem Tab.kok {n : Nat} {cs : List Cov} {bef : List Int} (t : Tab n cs bef) : ∀ c ∈ cs, PyData.strOk (cK c) = true := fun c hc => ok_kind (t.rows c hc).by_
theorem table_eq {n : Nat} {cs : List Cov} {bef : List Int} (t : Tab n cs bef) {m : Int} (hm : m = (n : Int)) : t_Table___init__ m cs bef = .ok (mkT n cs bef) := by
  subst hm
  have := t.size
  have := t.few
  have h2 : noCov (n : Int) cs = false := by
    unfold noCov
    rw [Bool.or_eq_false_iff]
    refine ⟨by simp; omega, List.any_eq_false.mpr fun c hc => ?_⟩
    rw [(isCov_iff (n : Int) c).mpr (t.rows c hc)]; decide
  have h3 : noLoss (n : Int) bef = false := by
    unfold noLoss
    rw [Bool.or_eq_false_iff]
    refine ⟨by simp [t.len], List.any_eq_false.mpr fun x hx => ?_⟩
    have := t.bd x hx
    simp; omega
  rw [table_init t.kok (by omega), if_pos (by omega), h2, h3]
  rfl
theorem tmosts_eq {n : Nat} {cs : List Cov} {bef : List Int} (hl : cs.length ≤ 1000) : t_Table_mosts (mkT n cs bef) = .ok (mosts cs) := by
  unfold t_Table_mosts b_Table_mosts
  rw [map_ok, tLc_map (te := b_Table_mosts_c1) cM (show (mkT n cs bef).rows.length ≤ 100000 from by show cs.length ≤ _; omega) (fun c hc => rfl)]
  rfl
theorem rows_get {cs : List Cov} {xs : List Int} (a : Acc cs xs) {i : Nat} (hi : i < cs.length) : tIx (tIx (.ok (rowsS cs)) (.ok (i : Int))) (tIx (.ok xs) (.ok (i : Int))) = .ok (dealt (cL (cAt cs i)) (bI xs i).toNat) := by
  have b := a.bd i hi
  rw [tIx_nat rfl (show (rowsS cs)[i]? = some (rowsOf (cL (cAt cs i)) (cM (cAt cs i)).toNat) by unfold rowsS; rw [List.getElem?_map, get_cAt hi]; rfl), tIx_bI rfl (by rw [a.len]; exact hi),
    tIx_nat (j := (bI xs i).toNat) (by omega) (rowsOf_get _ (by omega))]
theorem zip_take {cs : List Cov} {xs : List Int} (hl : xs.length = cs.length) {i : Nat} (hi : i < cs.length) (f : List Int) : ((cs.zip xs).take (i + 1)).foldl loadF f = addL (cL (cAt cs i)) (bI xs i) (((cs.zip xs).take i).foldl loadF f) := by
  have hz : i < (cs.zip xs).length := by simp; omega
  rw [List.take_succ_eq_append_getElem hz, List.foldl_append, List.foldl_cons, List.foldl_nil]
  have e : (cs.zip xs)[i] = (cAt cs i, bI xs i) := by
    rw [List.getElem_zip, bI_eq (by omega)]
    congr 1
    have := get_cAt hi
    rw [List.getElem?_eq_getElem hi] at this
    exact Option.some.inj this
  rw [e]; rfl
theorem loads_take {cs : List Cov} {xs : List Int} (hl : xs.length = cs.length) (f : List Int) : ((cs.zip xs).take cs.length).foldl loadF f = loads cs xs f := by
  rw [List.take_of_length_le (by simp; omega)]; rfl
theorem tloads_eq {n : Nat} {cs : List Cov} {bef xs : List Int} (t : Tab n cs bef) (a : Acc cs xs) : t_Table_loads (mkT n cs bef) xs = .ok (loads cs xs bef) := by
  have hfew := t.few
  unfold t_Table_loads b_Table_loads
  simp only [map_ok, thn_ok, tLen_ok]
  rw [show ((mkT n cs bef).rows.length : Int) = (cs.length : Int) from rfl, tR1_nat (by omega)]
  simp only [thn_ok]
  rw [tFor_rng (s0 := ((mkT n cs bef).befell, ())) (fun i => (((cs.zip xs).take i).foldl loadF bef, ())) (by simp [mkT]) (fun i hi => .inl ?_)]
  · simp only [bind_nx, res_rt]; rw [loads_take a.len]
  · rw [Int.zero_add]
    have ok := t.rows _ (cAt_mem hi)
    have hg := ok.lines.good
    unfold b_Table_loads_l2
    simp only [map_ok]
    rw [show (mkT n cs bef).splits = rowsS cs from rfl, rows_get a hi, tIx_nat rfl (show (mkT n cs bef).rows[i]? = some (cAt cs i) from get_cAt hi)]
    simp only [thn_ok, map_ok, tLen_ok]
    rw [tR1_nat (by have h4 : (cAt cs i).2.2.2.2.1.length ≤ 4 := hg.few; omega)]
    simp only [thn_ok]
    rw [tFor_rng (s0 := (((cs.zip xs).take i).foldl loadF bef, ())) (fun k => (addP (cL (cAt cs i)) (dealt (cL (cAt cs i)) (bI xs i).toNat) (((cs.zip xs).take i).foldl loadF bef) k, ())) rfl (fun k hk => .inl ?_)]
    · rw [zip_take a.len hi]; rfl
    · rw [Int.zero_add]
      unfold b_Table_loads_l1
      have hm := hA_mem hk
      have h1 : 0 ≤ hA (cAt cs i).2.2.2.2.1 k ∧ hA (cAt cs i).2.2.2.2.1 k < 6 := ok.lines.house _ hm
      have h2 : hA (cAt cs i).2.2.2.2.1 k < n ∧ hA (cAt cs i).2.2.2.2.1 k ≠ cH (cAt cs i) := ok.others _ hm
      have hlen : (addP (cL (cAt cs i)) (dealt (cL (cAt cs i)) (bI xs i).toNat) (((cs.zip xs).take i).foldl loadF bef) k).length = n := by rw [addP_len, foldF_len, t.len]
      rw [tIx_nat rfl (get_line hk), tIx_bI rfl (by rw [dealt_len]; exact hk)]
      simp only [map_ok]
      rw [tAugI_ok (j := (hA (cAt cs i).2.2.2.2.1 k).toNat) (by omega) (get_bI (by rw [hlen]; omega))]
      rfl
theorem pass_take {cs : List Cov} {i : Nat} {c : Cov} (h : cs[i]? = some c) (s : List Int × List Int) : (cs.take (i + 1)).foldl passF s = passF ((cs.take i).foldl passF s) c := by
  have hi := (List.getElem?_eq_some_iff.mp h).1
  rw [List.take_succ_eq_append_getElem hi, List.foldl_append, List.foldl_cons, List.foldl_nil]
  rw [List.getElem?_eq_getElem hi] at h
  rw [Option.some.inj h]
theorem foldP_len : ∀ (cs : List Cov) (s : List Int × List Int), (cs.foldl passF s).2.length = s.2.length ∧ (cs.foldl passF s).1.length = s.1.length + cs.length
  | [], s => by simp
  | c :: cs, s => by
    rw [List.foldl_cons]
    have := foldP_len cs (passF s c)
    simp only [passF, left1_len, List.length_append, List.length_cons, List.length_nil] at this ⊢
    omega
theorem tpassed_eq {n : Nat} {cs : List Cov} {bef xs : List Int} (t : Tab n cs bef) (a : Acc cs xs) : t_Table_passed (mkT n cs bef) xs = .ok (asks cs bef xs, lefts cs bef xs, ()) := by
  have hfew := t.few
  unfold t_Table_passed b_Table_passed
  simp only [bind_ok, tPair_ok, tloads_eq t a, thn_ok, map_ok]
  rw [tFor_seq (xs := (mkT n cs bef).rows) (s0 := (loads cs xs bef, [], ())) (fun i => (((cs.take i).foldl passF ([], loads cs xs bef)).2, ((cs.take i).foldl passF ([], loads cs xs bef)).1, ())) rfl (fun i c hc => .inl ?_)]
  · rw [show (mkT n cs bef).rows.length = cs.length from rfl, List.take_length, passF_pass]
    rfl
  · have hc : cs[i]? = some c := hc
    have hi := (List.getElem?_eq_some_iff.mp hc).1
    have ok := t.rows c (List.mem_of_getElem? hc)
    have hb := byOk_bd ok.by_
    have hl := (foldP_len (cs.take i) ([], loads cs xs bef))
    simp only [loads_len, t.len] at hl
    rw [pass_take hc]
    generalize (cs.take i).foldl passF ([], loads cs xs bef) = s at *
    obtain ⟨s1, s2⟩ := s
    have hl : s2.length = n := hl.1
    have hl2 : s1.length ≤ 16777000 := by have := (foldP_len (cs.take i) ([], loads cs xs bef)).2; simp at *; omega
    have hh : 0 ≤ c.1 ∧ c.1 < n := ok.house
    have hb : 0 ≤ c.2.2.1 ∧ c.2.2.1 ≤ 200 := hb
    unfold b_Table_passed_l1
    simp only [tPair_ok]
    rw [tIx_bI (j := c.1.toNat) (by omega) (by rw [hl]; omega)]
    simp only [tPair_ok, bind_ok]
    rw [taken_eq (ok_kind ok.by_) (by omega)]
    simp only [thn_ok]
    rw [tAugI_ok (j := c.1.toNat) (by omega) (get_bI (by rw [hl]; omega))]
    simp only [thn_ok, tAppn_ok]
    rw [tApp_ok (by omega)]
    rfl
/-! draws -/
theorem draws_l1 {row : List Int} {rest : Int} (hr : Row row) (hl : row.length ≤ 100000) : ∃ row' rest', Row row' ∧ row'.length ≤ row.length + 60 ∧ (tFor b_law_draws_l1 (rngI 0 60) (row, rest, ()) : TF ((List Int) × Int × Unit) ((List Int) × Int × Unit) (List Int) Unit) = .nx (row', rest', ()) := by
  obtain ⟨⟨row', rest', ⟨⟩⟩, h1, h2, h3⟩ := tFor_rinv (β := ((List Int) × Int × Unit)) (b := b_law_draws_l1) (lo := 0) (n := 60) (s0 := (row, rest, ())) (fun i s => Row s.1 ∧ s.1.length ≤ row.length + i) ⟨hr, by simp⟩ (fun i s hi ⟨h1, h2⟩ => by
    obtain ⟨r, t, ⟨⟩⟩ := s
    simp only at h1 h2
    by_cases hp : 0 < t
    · refine ⟨(r ++ [t % 997], t / 997, ()), .inl ?_, h1.app (by omega) (by omega), by simp; omega⟩
      unfold b_law_draws_l1
      simp [hp, iMod_pos, iDiv_pos, tApp_ok (show r.length < 16777216 by omega)]
    · refine ⟨(r, t, ()), .inl ?_, h1, by simp only; omega⟩
      unfold b_law_draws_l1
      simp [hp])
  exact ⟨row', rest', h2, h3, h1⟩
theorem iPow18 : iPow 10 18 = some 1000000000000000000 := by rfl
def Seed (s : Int) : Prop := 0 ≤ s ∧ s < 2147483629
theorem seed_mod (x : Int) : Seed (x % 2147483629) := ⟨Int.emod_nonneg _ (by omega), Int.emod_lt_of_pos _ (by omega)⟩
theorem draws_l2 {row : List Int} {seed c : Int} (hr : Row row) (hl : row.length ≤ 50000) (hs : Seed seed) : ∃ row' seed', Row row' ∧ row'.length ≤ row.length + 61 ∧ Seed seed' ∧ b_law_draws_l2 (row, seed, ()) c = .nx (row', seed', ()) := by
  obtain ⟨hs0, hs1⟩ := hs
  have k1 : iMul seed 40009 = some (seed * 40009) := iMul_b (by omega)
  have k3 : ∀ x, iMod x 2147483629 = some (x % 2147483629) := fun x => iMod_pos (by omega)
  have k2 : ∀ x, iMod x 1000033 = some (x % 1000033) := fun x => iMod_pos (by omega)
  have k4 : ∀ x, iMod x 997 = some (x % 997) := fun x => iMod_pos (by omega)
  have k5 : tR1 (.ok (60 : Int)) = .ok (rngI 0 60) := tR1_nat (n := 60) (by omega)
  by_cases hp : c - 1000000000000000000 < 0
  · obtain ⟨row', rest', h1, h2, h3⟩ := draws_l1 (rest := c - 1000000000000000000) (hr.app (d := c % 997) (by omega) (by omega)) (by simp; omega)
    refine ⟨row', _, h1, by simp at h2; omega, seed_mod (seed * 40009 + c % 1000033 + 13), ?_⟩
    unfold b_law_draws_l2
    simp only [tI_ok, k1, k2, k3, k4, k5, iPow18, iAdd_eq, iSub_eq, iLt_eq, of_some, thn_ok, tIf_ok, hp, decide_true, if_true, tAppn_ok, tApp_ok (show row.length < 16777216 by omega), bind_nx, h3]
  · obtain ⟨row', rest', h1, h2, h3⟩ := draws_l1 (rest := c - 1000000000000000000) hr (by omega)
    refine ⟨row', _, h1, by omega, seed_mod (seed * 40009 + c % 1000033 + 13), ?_⟩
    unfold b_law_draws_l2
    simp only [tI_ok, k1, k2, k3, k4, k5, iPow18, iAdd_eq, iSub_eq, iLt_eq, of_some, thn_ok, tIf_ok, hp, decide_false, Bool.false_eq_true, if_false, bind_nx, h3]
theorem draws_l3 {row : List Int} {seed : Int} {k : Nat} (hr : Row row) (hl : row.length ≤ 100000) (hk : k ≤ 10000) (hs : Seed seed) : ∃ d seed', (0 ≤ d ∧ d ≤ 996) ∧ Seed seed' ∧ b_law_draws_l3 (row, seed, ()) (0 + (k : Int)) = .nx (row ++ [d], seed', ()) := by
  obtain ⟨hs0, hs1⟩ := hs
  have k1 : iMul seed seed = some (seed * seed) := iMul_b (by omega)
  have k2 : iMul 69621 seed = some (69621 * seed) := iMul_b (by omega)
  have k2' : iMul 7 (0 + (k : Int)) = some (7 * (0 + (k : Int))) := iMul_b (by omega)
  have k3 : ∀ x, iMod x 2147483629 = some (x % 2147483629) := fun x => iMod_pos (by omega)
  have k4 : ∀ x, iMod x 997 = some (x % 997) := fun x => iMod_pos (by omega)
  have k5 : ∀ x, iDiv x 1031 = some (x / 1031) := fun x => iDiv_pos (by omega) (by omega)
  have b := seed_mod (seed * seed + 69621 * seed + 7 * (0 + (k : Int)) + 5)
  have e : b_law_draws_l3 (row, seed, ()) (0 + (k : Int)) = .nx (row ++ [(seed * seed + 69621 * seed + 7 * (0 + (k : Int)) + 5) % 2147483629 / 1031 % 997], (seed * seed + 69621 * seed + 7 * (0 + (k : Int)) + 5) % 2147483629, ()) := by
    unfold b_law_draws_l3
    simp only [tI_ok, k1, k2, k2', iAdd_eq, of_some]
    simp only [tI_ok, k3, of_some, thn_ok]
    simp only [tI_ok, k5, of_some, k4, tAppn_ok, tApp_ok (show row.length < 16777216 by omega), thn_ok]
  generalize (seed * seed + 69621 * seed + 7 * (0 + (k : Int)) + 5) % 2147483629 = s' at *
  exact ⟨s' / 1031 % 997, s', ⟨by omega, by omega⟩, b, e⟩
theorem draws_eq (ns : List Int) (hn : ns.length ≤ 63) {m : Int} (many : Nat) (hmm : m = (many : Int)) (hm : many ≤ 10000) : ∃ ds : List Int, ds.length = many ∧ Row ds ∧ t_law_draws ns m = .ok ds := by
  subst hmm
  have hc : cutL ns none (some 63) = ns := by
    have h63 : ((63 : Int)) = ((63 : Nat) : Int) := rfl
    unfold cutL
    rw [h63, HT.sIx_nat]
    simp only [HT.sIx, List.drop_zero, Nat.sub_zero]
    exact List.take_of_length_le (by omega)
  obtain ⟨⟨row, seed, ⟨⟩⟩, h1, h2, h3, h4⟩ := tFor_inv (β := Unit) (b := b_law_draws_l2) (xs := ns) (s0 := ([], 29, ())) (fun i s => Row s.1 ∧ s.1.length ≤ 61 * i ∧ Seed s.2.1) ⟨fun _ h => absurd h List.not_mem_nil, by simp, by unfold Seed; simp⟩ (fun i c s hi ⟨h1, h2, h3⟩ => by
    obtain ⟨r, t, ⟨⟩⟩ := s
    simp only at h1 h2 h3
    have hil := (List.getElem?_eq_some_iff.mp hi).1
    obtain ⟨row', seed', g1, g2, g3, g4⟩ := draws_l2 (c := c) h1 (by omega) h3
    exact ⟨_, .inl g4, g1, by simp only; omega, g3⟩)
  simp only at h2 h3 h4
  obtain ⟨⟨row2, seed2, ⟨⟩⟩, g1, g2, g3, g4⟩ := tFor_rinv (β := Unit) (b := b_law_draws_l3) (lo := 0) (n := many) (s0 := (row, seed, ())) (fun i s => Row s.1 ∧ s.1.length = row.length + i ∧ Seed s.2.1) ⟨h2, by simp, h4⟩ (fun i s hi ⟨h1, h2, h3⟩ => by
    obtain ⟨r, t, ⟨⟩⟩ := s
    simp only at h1 h2 h3
    obtain ⟨d, seed', g1, g2, g4⟩ := draws_l3 (k := i) h1 (by omega) (by omega) h3
    exact ⟨_, .inl g4, h1.app g1.1 g1.2, by simp; omega, g2⟩)
  simp only at g2 g3
  refine ⟨row2.take many, by rw [List.length_take]; omega, fun d hd => g2 d (List.mem_of_mem_take hd), ?_⟩
  unfold t_law_draws b_law_draws
  simp only [thn_ok, map_ok, tSl_ok, hc, h1, bind_nx]
  rw [tR1_nat (by omega)]
  simp only [thn_ok, g1, bind_nx, res_rt]
  congr 1
  unfold cutL
  rw [HT.sIx_nat]
  simp only [HT.sIx, List.drop_zero, Nat.sub_zero]
  congr 1
  omega
/-! lines drawn -/
/-- while the lines are drawn -/
structure Drawn (Q : Int → Prop) (os : List Int) (ls : Ln) (L k : Nat) : Prop where
  nodup : (os ++ ls.map (·.1)).Nodup
  os_in : ∀ o ∈ os, Q o
  ls_in : ∀ p ∈ ls, Q p.1
  w : ∀ p ∈ ls, 1 ≤ p.2.1 ∧ p.2.1 ≤ 20
  left : os.length + ls.length = L
  len : ls.length = k
theorem erase_mem {α : Type} {xs : List α} {n : Nat} {x : α} (h : x ∈ xs.eraseIdx n) : x ∈ xs := List.mem_of_mem_eraseIdx h
theorem erase_perm {α : Type} : ∀ (xs : List α) (n : Nat) (h : n < xs.length), (xs[n] :: xs.eraseIdx n).Perm xs
  | x :: xs, 0, _ => List.Perm.refl _
  | x :: xs, n + 1, h => by
    have := erase_perm xs n (by simpa using h)
    show ((xs[n]'_) :: x :: xs.eraseIdx n).Perm _
    exact (List.Perm.swap x _ _).trans (List.Perm.cons x this)
theorem Drawn.step {Q : Int → Prop} {os : List Int} {ls : Ln} {L k : Nat} (h : Drawn Q os ls L k) {n : Nat} (hn : n < os.length) {w : Int} (hw : 1 ≤ w ∧ w ≤ 20) : Drawn Q (os.eraseIdx n) (ls ++ [(os[n], w, ())]) L (k + 1) where
  nodup := by
    have p : (os.eraseIdx n ++ (ls ++ [(os[n], w, ())]).map (·.1)).Perm (os ++ ls.map (·.1)) := by
      rw [List.map_append, List.map_cons, List.map_nil]
      refine (List.Perm.append_left _ (List.perm_append_singleton _ _)).trans ?_
      refine List.perm_middle.trans ?_
      exact List.Perm.append_right _ (erase_perm os n hn)
    exact p.nodup_iff.mpr h.nodup
  os_in := fun o ho => h.os_in o (erase_mem ho)
  ls_in := fun p hp => by
    rcases List.mem_append.mp hp with hp | hp
    · exact h.ls_in p hp
    · rw [List.mem_singleton.mp hp]; exact h.os_in _ (List.getElem_mem hn)
  w := fun p hp => by
    rcases List.mem_append.mp hp with hp | hp
    · exact h.w p hp
    · rw [List.mem_singleton.mp hp]; exact hw
  left := by have := h.left; rw [List.length_eraseIdx, if_pos hn]; simp; omega
  len := by have := h.len; simp; omega
theorem lines_l1 {Q : Int → Prop} {os : List Int} {ls : Ln} {L k : Nat} {ds : List Int} (h : Drawn Q os ls L k) (hL : L ≤ 6) (hk : k < 4) (hkL : k < L) (hd : Row ds) (hl : 5 ≤ ds.length) :
    ∃ os' ls', Drawn Q os' ls' L (k + 1) ∧ b_law_lines_l1 ds (os, ls, ()) (0 + (k : Int)) = .nx (os', ls', ()) := by
  have hleft := h.left
  have hlen := h.len
  have b0 := hd.at 0
  have b1 := hd.at (1 + k)
  have i0 : tIx (.ok ds) (.ok (0 : Int)) = .ok (bI ds 0) := tIx_bI rfl (by omega)
  have i1 : tIx (.ok ds) (.ok ((1 : Int) + (0 + (k : Int)))) = .ok (bI ds (1 + k)) := tIx_bI (by omega) (by omega)
  obtain ⟨n, hn, hnl⟩ := emod_nat (a := bI ds (1 + k)) (b := (os.length : Int)) (by omega)
  have k1 : iMod (bI ds (1 + k)) (os.length : Int) = some (n : Int) := by rw [iMod_pos (by omega), hn]
  have k2 : ∀ x, iDiv x 7 = some (x / 7) := fun x => iDiv_pos (by omega) (by omega)
  have k3 : ∀ x, iMod x 20 = some (x % 20) := fun x => iMod_pos (by omega)
  have k4 : ∀ x, iMod x 3 = some (x % 3) := fun x => iMod_pos (by omega)
  have k5 : ∀ x, iDiv x 4 = some (x / 4) := fun x => iDiv_pos (by omega) (by omega)
  have kp : tPopAt os (n : Int) = .ok (os[n], os.eraseIdx n) := tPopAt_ok rfl (by omega) (List.getElem?_eq_getElem (by omega))
  have ka : ∀ x, tApp ls x = .ok (ls ++ [x]) := fun x => tApp_ok (by omega)
  by_cases c : bI ds 0 / 4 % 3 = 1
  · refine ⟨os.eraseIdx n, ls ++ [(os[n], 1 + bI ds (1 + k) / 7 % 3, ())], h.step (by omega) (by omega), ?_⟩
    unfold b_law_lines_l1
    simp only [tI_ok, iAdd_eq, of_some, i0, i1, tLen_ok, k1, k2, k3, k4, k5, bind_ok, kp, thn_ok, tD_ok, dEq_int, tIf_ok, c, beq_self_eq_true, if_true, bind_nx, tPair_ok, tAppn_ok, ka]
  · refine ⟨os.eraseIdx n, ls ++ [(os[n], 1 + bI ds (1 + k) / 7 % 20, ())], h.step (by omega) (by omega), ?_⟩
    have c' : (bI ds 0 / 4 % 3 == 1) = false := by simpa using c
    unfold b_law_lines_l1
    simp only [tI_ok, iAdd_eq, of_some, i0, i1, tLen_ok, k1, k2, k3, k4, k5, bind_ok, kp, thn_ok, tD_ok, dEq_int, tIf_ok, c', Bool.false_eq_true, if_false, bind_nx, tPair_ok, tAppn_ok, ka]
/-- the houses but one -/
def others (n : Nat) (house : Int) : List Int := (rngI 0 n).filter fun k => !(k == house)
theorem others_nodup (n : Nat) (house : Int) : (others n house).Nodup := by
  refine List.Nodup.sublist List.filter_sublist ?_
  unfold rngI
  refine List.Pairwise.map _ ?_ List.nodup_range
  intro a b h c
  exact h (by omega)
theorem others_in {n : Nat} {house o : Int} (h : o ∈ others n house) : 0 ≤ o ∧ o < n ∧ o ≠ house := by
  obtain ⟨h1, h2⟩ := List.mem_filter.mp h
  obtain ⟨k, hk, rfl⟩ := List.mem_map.mp h1
  have := List.mem_range.mp hk
  have h3 : ¬ (0 + (k : Int) = house) := by simpa using h2
  exact ⟨by omega, by omega, h3⟩
theorem others_pos {n : Nat} {house : Int} (h : 2 ≤ n) : 0 < (others n house).length := by
  rw [List.length_pos_iff]
  intro hc
  by_cases e : house = 0
  · have : (1 : Int) ∈ others n house := List.mem_filter.mpr ⟨List.mem_map.mpr ⟨1, List.mem_range.mpr (by omega), rfl⟩, by simp [e]⟩
    rw [hc] at this; cases this
  · have : (0 : Int) ∈ others n house := List.mem_filter.mpr ⟨List.mem_map.mpr ⟨0, List.mem_range.mpr (by omega), rfl⟩, by simp; exact fun z => e z.symm⟩
    rw [hc] at this; cases this
theorem others_le (n : Nat) (house : Int) : (others n house).length ≤ n := Nat.le_trans (List.length_filter_le _ _) (by simp)
theorem lawlines_eq {houses : Nat} {hs house : Int} {ds : List Int} (hhs : hs = (houses : Int)) (h2 : 2 ≤ houses) (h6 : houses ≤ 6) (hd : Row ds) (hl : 5 ≤ ds.length) :
    ∃ ls, Lines ls ∧ (∀ p ∈ ls, 0 ≤ p.1 ∧ p.1 < hs ∧ p.1 ≠ house) ∧ t_law_lines hs house ds = .ok ls := by
  subst hhs
  have o1 := others_pos (house := house) h2
  have o2 := others_le houses house
  have b0 := hd.at 0
  have i0 : tIx (.ok ds) (.ok (0 : Int)) = .ok (bI ds 0) := tIx_bI rfl (by omega)
  have D0 : Drawn (fun o => 0 ≤ o ∧ o < (houses : Int) ∧ o ≠ house) (others houses house) [] (others houses house).length 0 := ⟨by simp [others_nodup], fun o ho => others_in ho, fun _ h => absurd h List.not_mem_nil, fun _ h => absurd h List.not_mem_nil, by simp, rfl⟩
  have m0 := iMin_le 4 ((others houses house).length : Int)
  generalize hm : iMin 4 ((others houses house).length : Int) = m at m0
  obtain ⟨q, hq, hql⟩ := emod_nat (a := bI ds 0) (b := m) (by omega)
  obtain ⟨⟨os, ls, ⟨⟩⟩, g1, g2⟩ := tFor_rinv (β := Unit) (b := b_law_lines_l1 ds) (lo := 0) (n := 1 + q) (s0 := (others houses house, [], ())) (fun i s => Drawn (fun o => 0 ≤ o ∧ o < (houses : Int) ∧ o ≠ house) s.1 s.2.1 (others houses house).length i) D0 (fun i s hi g => by
    obtain ⟨r, t, ⟨⟩⟩ := s
    simp only at g
    obtain ⟨os', ls', w1, w2⟩ := lines_l1 (k := i) g (by omega) (by omega) (by omega) hd hl
    exact ⟨_, .inl w2, w1⟩)
  simp only at g2
  have nd := g2.nodup
  rw [List.nodup_append] at nd
  refine ⟨ls, ⟨⟨by have := g2.len; omega, by have := g2.len; omega, g2.w⟩, fun p hp => by have := g2.ls_in p hp; omega, nd.2.1⟩, g2.ls_in, ?_⟩
  have c1 : tLc (b_law_lines_d1 house) b_law_lines_c1 (.ok (rngI 0 houses)) = .ok (others houses house) := by
    refine (tLc_fm (fun k => !(k == house)) (fun k => k) (by rw [rngI_len]; omega) fun a _ => ⟨rfl, fun _ => rfl⟩).trans ?_
    rw [List.map_id']; rfl
  unfold t_law_lines b_law_lines
  rw [tR1_nat (by omega), c1]
  simp only [thn_ok, i0, tLen_ok, tMin_ok, hm, tI_ok]
  rw [iMod_pos (by omega), hq]
  simp only [of_some, tI_ok, iAdd_eq, thn_ok]
  rw [tR1_int (n := 1 + q) (by omega) (by omega)]
  simp only [thn_ok, g1, bind_nx, res_rt]
/-! a cover drawn -/
theorem kinds_at (x : Int) : ∃ k : Str, (k = "share" ∨ k = "layer") ∧ tIx (tCons (Res.ok ("share" : Str)) (tCons (Res.ok ("layer" : Str)) (Res.ok []))) (tI iMod (Res.ok x) (Res.ok (2 : Int))) = .ok k := by
  rw [tI_ok, iMod_pos (by omega)]
  have : x % 2 = 0 ∨ x % 2 = 1 := by omega
  rcases this with h | h <;> rw [h]
  · exact ⟨"share", .inl rfl, rfl⟩
  · exact ⟨"layer", .inr rfl, rfl⟩
theorem str_ne : ¬ (("layer" : Str) = "share") := by decide +kernel
theorem lawcover_eq {houses : Nat} {hs : Int} {ds : List Int} (hhs : hs = (houses : Int)) (h2 : 2 ≤ houses) (h6 : houses ≤ 6) (hd : Row ds) (hl : 9 ≤ ds.length) :
    ∃ c : Cov, CovOk hs c ∧ t_law_cover hs ds = .ok c := by
  have i : ∀ j : Nat, j < 9 → tIx (.ok ds) (.ok (j : Int)) = .ok (bI ds j) := fun j hj => tIx_bI rfl (by omega)
  have i0 : tIx (.ok ds) (.ok (0 : Int)) = .ok (bI ds 0) := i 0 (by omega)
  have i1 : tIx (.ok ds) (.ok (1 : Int)) = .ok (bI ds 1) := i 1 (by omega)
  have i2 : tIx (.ok ds) (.ok (2 : Int)) = .ok (bI ds 2) := i 2 (by omega)
  have i3 : tIx (.ok ds) (.ok (3 : Int)) = .ok (bI ds 3) := i 3 (by omega)
  have b0 := hd.at 0
  have b1 := hd.at 1
  have b2 := hd.at 2
  have b3 := hd.at 3
  have c1 : cutL ds (some 4) (some 9) = (ds.drop 4).take 5 := cutL_in (i := 4) (j := 9) rfl rfl (by omega) (by omega)
  have l5 : ((ds.drop 4).take 5).length = 5 := by simp; omega
  have m0 : iMod (bI ds 0) hs = some (bI ds 0 % hs) := iMod_pos (by omega)
  have o1 := Int.emod_nonneg (bI ds 0) (show hs ≠ 0 by omega)
  have o2 := Int.emod_lt_of_pos (bI ds 0) (show 0 < hs by omega)
  obtain ⟨ls, L, Lo, hL⟩ := lawlines_eq (house := bI ds 0 % hs) hhs h2 h6 (hd.slice 4 5) (by omega)
  obtain ⟨k, hk, kk⟩ := kinds_at (bI ds 1)
  generalize bI ds 0 % hs = house at *
  have m1 : ∀ x, iDiv x 2 = some (x / 2) := fun x => iDiv_pos (by omega) (by omega)
  have m2 : ∀ x, iMod x 3 = some (x % 3) := fun x => iMod_pos (by omega)
  have m3 : ∀ x, iMod x 201 = some (x % 201) := fun x => iMod_pos (by omega)
  have m4 : ∀ x, iMod x 9 = some (x % 9) := fun x => iMod_pos (by omega)
  have m5 : ∀ x, iMod x 100 = some (x % 100) := fun x => iMod_pos (by omega)
  have m6 : ∀ x, iMod x 50 = some (x % 50) := fun x => iMod_pos (by omega)
  have m7 : ∀ x, iMod x 25 = some (x % 25) := fun x => iMod_pos (by omega)
  obtain ⟨b, hb⟩ : ∃ b : Int, (0 ≤ b ∧ b ≤ 200) ∧ (TF.bind (tIf () (tD dEq D.int D.int (tI iMod (tI iDiv (Res.ok (bI ds 1)) (Res.ok (2 : Int))) (Res.ok (3 : Int))) (Res.ok (1 : Int))) ((tI iMod (Res.ok (bI ds 2)) (Res.ok (9 : Int))).thn () fun v4 => (.nx (v4, ()))) (.nx (bI ds 2 % 201, ())) : TF Unit (Int × Unit) Cov Unit) fun v => .nx v) = (.nx (b, ()) : TF Unit (Int × Unit) Cov Unit) := by
    by_cases e : bI ds 1 / 2 % 3 = 1
    · exact ⟨bI ds 2 % 9, by omega, by simp [m1, m2, m4, dEq_int, e]⟩
    · exact ⟨bI ds 2 % 201, by omega, by simp [m1, m2, m4, dEq_int, e]⟩
  have hb2 : tIf () (tD dEq D.int D.int (tI iMod (tI iDiv (Res.ok (bI ds 1)) (Res.ok (2 : Int))) (Res.ok (3 : Int))) (Res.ok (1 : Int))) ((tI iMod (Res.ok (bI ds 2)) (Res.ok (9 : Int))).thn () fun v4 => (.nx (v4, ()))) (.nx (bI ds 2 % 201, ())) = (.nx (b, ()) : TF Unit (Int × Unit) Cov Unit) := by
    have := hb.2
    revert this
    cases (tIf () (tD dEq D.int D.int (tI iMod (tI iDiv (Res.ok (bI ds 1)) (Res.ok (2 : Int))) (Res.ok (3 : Int))) (Res.ok (1 : Int))) ((tI iMod (Res.ok (bI ds 2)) (Res.ok (9 : Int))).thn () fun v4 => (.nx (v4, ()))) (.nx (bI ds 2 % 201, ())) : TF Unit (Int × Unit) Cov Unit) <;> simp
  obtain ⟨b', hb', hr⟩ : ∃ b' : Int, byOk k b' = true ∧ tIf () (tD dEq D.str D.str (Res.ok k) (Res.ok ("share" : Str))) ((tIx (tCons (tI iAdd (Res.ok (1 : Int)) (tI iMod (Res.ok (bI ds 2)) (Res.ok (100 : Int)))) (tCons (Res.ok (100 : Int)) (tCons (tI iAdd (Res.ok (50 : Int)) (tI iMod (Res.ok (bI ds 2)) (Res.ok (50 : Int)))) (Res.ok [])))) (tI iMod (tI iDiv (Res.ok (bI ds 1)) (Res.ok (2 : Int))) (Res.ok (3 : Int)))).thn () fun v6 => (.nx (v6, ()))) (.nx (b, ())) = (.nx (b', ()) : TF Unit (Int × Unit) Cov Unit) := by
    rcases hk with rfl | rfl
    · rw [tD_ok, dEq_lit ok_share ok_share]
      simp only [decide_true, of_some, tIf_ok, if_true, tI_ok, m1, m2, m5, m6, iAdd_eq, tCons_ok]
      have : bI ds 1 / 2 % 3 = 0 ∨ bI ds 1 / 2 % 3 = 1 ∨ bI ds 1 / 2 % 3 = 2 := by omega
      rcases this with h | h | h <;> rw [h]
      · exact ⟨1 + bI ds 2 % 100, by unfold byOk; simp; omega, rfl⟩
      · exact ⟨100, by unfold byOk; simp, rfl⟩
      · exact ⟨50 + bI ds 2 % 50, by unfold byOk; simp; omega, rfl⟩
    · rw [tD_ok, dEq_lit ok_layer ok_share]
      simp only [str_ne, decide_false, of_some, tIf_ok]
      exact ⟨b, by unfold byOk; rw [if_neg str_ne]; simp; omega, rfl⟩
  refine ⟨(house, k, b', bI ds 3 % 25, ls, ()), ⟨⟨o1, o2⟩, hb', by show 0 ≤ bI ds 3 % 25 ∧ bI ds 3 % 25 ≤ 24; omega, L, fun p hp => ⟨(Lo p hp).2.1, (Lo p hp).2.2⟩⟩, ?_⟩
  unfold t_law_cover b_law_cover
  simp only [i0, i1, i2, i3, tI_ok, m0, of_some, thn_ok]
  simp only [tI_ok] at kk hb2 hr
  simp only [kk, m3, of_some, thn_ok, hb2, bind_nx, hr, m7, map_ok, tSl_ok, c1, tPair_ok, bind_ok, hL, res_rt]
/-! a table drawn -/
theorem lawrows_eq {houses : Nat} {hs : Int} {ds : List Int} (hhs : hs = (houses : Int)) (h1 : 1 ≤ houses) (h6 : houses ≤ 6) (hd : Row ds) (hl : 91 ≤ ds.length) :
    ∃ cs : List Cov, cs.length ≤ 10 ∧ (houses = 1 → cs = []) ∧ (∀ c ∈ cs, CovOk hs c) ∧ t_law_rows hs ds = .ok cs := by
  by_cases e : houses = 1
  · refine ⟨[], by simp, fun _ => rfl, fun _ h => absurd h List.not_mem_nil, ?_⟩
    subst hhs
    unfold t_law_rows b_law_rows
    simp [e, dEq_int]
  · have i0 : tIx (.ok ds) (.ok (0 : Int)) = .ok (bI ds 0) := tIx_bI rfl (by omega)
    obtain ⟨m, hm, hml⟩ := emod_nat (a := bI ds 0) (b := 11) (by omega)
    have hcs : ∀ i : Nat, ∃ c : Cov, i < m → CovOk hs c ∧ t_law_cover hs ((ds.drop (1 + 9 * i)).take 9) = .ok c := fun i => by
      by_cases hi : i < m
      · obtain ⟨c, h1, h2⟩ := lawcover_eq hhs (by omega) h6 (hd.slice (1 + 9 * i) 9) (by simp; omega)
        exact ⟨c, fun _ => ⟨h1, h2⟩⟩
      · exact ⟨(0, "", 0, 0, [], ()), fun h => absurd h hi⟩
    have hch := fun i => (hcs i).choose_spec
    generalize hC : (fun i => (hcs i).choose) = C
    have hC' : ∀ i, i < m → CovOk hs (C i) ∧ t_law_cover hs ((ds.drop (1 + 9 * i)).take 9) = .ok (C i) := fun i hi => by
      have := hch i hi
      rw [← hC]; exact this
    have c1 : tLc (fun _ : Int => (Res.ok true)) (b_law_rows_c1 hs ds) (.ok (rngI 0 m)) = .ok ((rngI 0 m).map fun j : Int => C j.toNat) := by
      refine tLc_m (xs := rngI 0 m) (fun j : Int => C j.toNat) (by rw [rngI_len]; omega) fun j hj => ?_
      obtain ⟨i, hi, rfl⟩ := List.mem_map.mp hj
      have hi := List.mem_range.mp hi
      unfold b_law_rows_c1
      simp only [tI_ok, iAdd_eq, of_some, map_ok, iMul_b (i := 9) (by omega), tSl_ok, tPair_ok, bind_ok]
      rw [cutL_in (i := 1 + 9 * i) (j := 10 + 9 * i) (by omega) (by omega) (by omega) (by omega), show 10 + 9 * i - (1 + 9 * i) = 9 by omega, (hC' i hi).2]
      simp
    have hmem : ∀ c ∈ (rngI 0 m).map (fun j : Int => C j.toNat), CovOk hs c := fun c hc => by
      obtain ⟨j, hj, rfl⟩ := List.mem_map.mp hc
      obtain ⟨i, hi, rfl⟩ := List.mem_map.mp hj
      have hi := List.mem_range.mp hi
      have := (hC' i hi).1
      simpa using this
    have hhe : (hs == 1) = false := by simp; omega
    by_cases c : bI ds 0 / 11 % 6 = 1
    · have c2 : tLc (fun _ : Int => (Res.ok true)) (b_law_rows_c2 ((rngI 0 m).map fun j : Int => C j.toNat)) (.ok (rngI 0 m)) = .ok ((rngI 0 m).map fun j : Int => C (j.toNat / 2)) := by
        refine tLc_m (xs := rngI 0 m) (fun j : Int => C (j.toNat / 2)) (by rw [rngI_len]; omega) fun j hj => ?_
        obtain ⟨i, hi, rfl⟩ := List.mem_map.mp hj
        have hi := List.mem_range.mp hi
        unfold b_law_rows_c2
        simp only [tI_ok]
        rw [iDiv_pos (by omega) (by omega), of_some]
        refine tIx_nat (j := i / 2) (by omega) ?_
        rw [List.getElem?_map, rngI_get (by omega)]
        show some (C (0 + ((i / 2 : Nat) : Int)).toNat) = some (C ((0 + (i : Int)).toNat / 2))
        congr 2; omega
      refine ⟨(rngI 0 m).map fun j : Int => C (j.toNat / 2), by simp; omega, fun z => absurd z e, fun c hc => ?_, ?_⟩
      · obtain ⟨j, hj, rfl⟩ := List.mem_map.mp hc
        obtain ⟨i, hi, rfl⟩ := List.mem_map.mp hj
        have hi := List.mem_range.mp hi
        have := (hC' (i / 2) (by omega)).1
        rw [Int.zero_add, Int.toNat_natCast]; exact this
      · unfold t_law_rows b_law_rows
        simp only [tD_ok, dEq_int, of_some, hhe, tIf_ok, Bool.false_eq_true, if_false, i0, tI_ok, iMod_pos (show (0 : Int) < 11 by omega), hm, thn_ok, iDiv_pos (show (0 : Int) < 11 by omega) (by omega), iMod_pos (show (0 : Int) < 6 by omega), c, beq_self_eq_true, if_true]
        rw [tR1_nat (by omega), c1]
        simp only [thn_ok]
        rw [c2]
        rfl
    · refine ⟨(rngI 0 m).map fun j : Int => C j.toNat, by simp; omega, fun z => absurd z e, hmem, ?_⟩
      have c' : (bI ds 0 / 11 % 6 == 1) = false := by simpa using c
      unfold t_law_rows b_law_rows
      simp only [tD_ok, dEq_int, of_some, hhe, tIf_ok, Bool.false_eq_true, if_false, i0, tI_ok, iMod_pos (show (0 : Int) < 11 by omega), hm, thn_ok, iDiv_pos (show (0 : Int) < 11 by omega) (by omega), iMod_pos (show (0 : Int) < 6 by omega), c']
      rw [tR1_nat (by omega), c1]
      rfl
theorem lawlosses_eq {houses : Nat} {hs : Int} {ds : List Int} (hhs : hs = (houses : Int)) (h6 : houses ≤ 6) (hd : Row ds) (hl : 7 ≤ ds.length) :
    ∃ xs : List Int, xs.length = houses ∧ (∀ x ∈ xs, 0 ≤ x ∧ x ≤ 9000) ∧ t_law_losses hs ds = .ok xs := by
  subst hhs
  have i0 : tIx (.ok ds) (.ok (0 : Int)) = .ok (bI ds 0) := tIx_bI rfl (by omega)
  have b0 := hd.at 0
  obtain ⟨⟨xs, ⟨⟩⟩, g1, g2, g3⟩ := tFor_rinv (β := Unit) (b := b_law_losses_l1 ds) (lo := 0) (n := houses) (s0 := ([], ())) (fun i s => s.1.length = i ∧ ∀ x ∈ s.1, 0 ≤ x ∧ x ≤ 9000) ⟨rfl, fun _ h => absurd h List.not_mem_nil⟩ (fun i s hi ⟨g2, g3⟩ => by
    obtain ⟨r, ⟨⟩⟩ := s
    simp only at g2 g3
    have b1 := hd.at (1 + i)
    have i1 : tIx (.ok ds) (.ok ((1 : Int) + (0 + (i : Int)))) = .ok (bI ds (1 + i)) := tIx_bI (by omega) (by omega)
    obtain ⟨x, hx, he⟩ : ∃ x : Int, (0 ≤ x ∧ x ≤ 9000) ∧ tIx (tCons (Res.ok (0 : Int)) (tCons (tI iMod (Res.ok (bI ds (1 + i))) (Res.ok (12 : Int))) (tCons (tI iMod (Res.ok (bI ds (1 + i))) (Res.ok (90 : Int))) (tCons (tI iMod (Res.ok (bI ds (1 + i))) (Res.ok (300 : Int))) (tCons (tI iMod (tI iMul (Res.ok (bI ds (1 + i))) (Res.ok (9 : Int))) (Res.ok (10000 : Int))) (Res.ok [])))))) (tI iMod (tI iAdd (Res.ok (bI ds 0)) (tI iDiv (Res.ok (bI ds (1 + i))) (Res.ok (300 : Int)))) (Res.ok (5 : Int))) = .ok x := by
      simp only [tI_ok, iMul_c (j := 9) (show -4000000000 ≤ (9 : Int) ∧ (9 : Int) ≤ 4000000000 by omega), iMod_pos (show (0 : Int) < 12 by omega), iMod_pos (show (0 : Int) < 90 by omega), iMod_pos (show (0 : Int) < 300 by omega), iMod_pos (show (0 : Int) < 10000 by omega), iMod_pos (show (0 : Int) < 5 by omega), iDiv_pos (show (0 : Int) < 300 by omega) (by omega), iAdd_eq, of_some, tCons_ok]
      have : (bI ds 0 + bI ds (1 + i) / 300) % 5 = 0 ∨ (bI ds 0 + bI ds (1 + i) / 300) % 5 = 1 ∨ (bI ds 0 + bI ds (1 + i) / 300) % 5 = 2 ∨ (bI ds 0 + bI ds (1 + i) / 300) % 5 = 3 ∨ (bI ds 0 + bI ds (1 + i) / 300) % 5 = 4 := by omega
      rcases this with h | h | h | h | h <;> rw [h]
      · exact ⟨0, by omega, rfl⟩
      · exact ⟨bI ds (1 + i) % 12, by omega, rfl⟩
      · exact ⟨bI ds (1 + i) % 90, by omega, rfl⟩
      · exact ⟨bI ds (1 + i) % 300, by omega, rfl⟩
      · have e9 : bI ds (1 + i) * 9 % 10000 = bI ds (1 + i) * 9 := Int.emod_eq_of_lt (by omega) (by omega)
        exact ⟨bI ds (1 + i) * 9 % 10000, by omega, rfl⟩
    refine ⟨(r ++ [x], ()), .inl ?_, by simp [g2], fun y hy => ?_⟩
    · unfold b_law_losses_l1
      rw [i0]
      have e1 : tI iAdd (Res.ok (1 : Int)) (Res.ok (0 + (i : Int))) = .ok (1 + (0 + (i : Int))) := rfl
      rw [e1, i1]
      simp only [thn_ok]
      rw [he]
      simp only [tAppn_ok, tApp_ok (show r.length < 16777216 by omega), thn_ok]
    · rcases List.mem_append.mp hy with hy | hy
      · exact g3 y hy
      · rw [List.mem_singleton.mp hy]; exact hx)
  simp only at g2 g3
  refine ⟨xs, g2, g3, ?_⟩
  unfold t_law_losses b_law_losses
  simp only [thn_ok]
  rw [tR1_nat (by omega)]
  simp only [thn_ok, g1, bind_nx, res_rt]
theorem lawmade_eq' {ds : List Int} (hd : Row ds) (hl : 99 ≤ ds.length) :
    ∃ (n : Nat) (cs : List Cov) (bef : List Int), Tab n cs bef ∧ (n = 1 → cs = []) ∧ (∀ x ∈ bef, x ≤ 9000) ∧ t_law_made ds = .ok ((n : Int), cs, bef, ()) := by
  have i0 : tIx (.ok ds) (.ok (0 : Int)) = .ok (bI ds 0) := tIx_bI rfl (by omega)
  obtain ⟨m, hm, hml⟩ := emod_nat (a := bI ds 0 + 3) (b := 6) (by omega)
  obtain ⟨cs, r1, r0, r2, r3⟩ := lawrows_eq (houses := 1 + m) (hs := 1 + (m : Int)) (by omega) (by omega) (by omega) (hd.slice 8 (99 - 8)) (by rw [cut_len (by omega) (by omega)]; omega)
  obtain ⟨xs, x1, x2, x3⟩ := lawlosses_eq (houses := 1 + m) (hs := 1 + (m : Int)) (by omega) (by omega) (hd.slice 1 (8 - 1)) (by rw [cut_len (by omega) (by omega)]; omega)
  refine ⟨1 + m, cs, xs, ⟨⟨by omega, by omega⟩, r1, fun c hc => by rw [show ((1 + m : Nat) : Int) = 1 + (m : Int) by omega]; exact r2 c hc, x1, fun x hx => by have := x2 x hx; omega⟩, r0, fun x hx => (x2 x hx).2, ?_⟩
  unfold t_law_made b_law_made
  simp only [i0, tI_ok, iAdd_eq, of_some, iMod_pos (show (0 : Int) < 6 by omega), hm, thn_ok, map_ok, tSl_ok]
  rw [cutL_in (lo := 8) (hi := 99) (i := 8) (j := 99) rfl rfl (by omega) (by omega), cutL_in (lo := 1) (hi := 8) (i := 1) (j := 8) rfl rfl (by omega) (by omega)]
  simp only [tPair_ok, bind_ok, r3, x3, thn_ok, res_rt]
  congr 2
theorem lawmade_eq {ds : List Int} (hd : Row ds) (hl : 99 ≤ ds.length) :
    ∃ (n : Nat) (cs : List Cov) (bef : List Int), Tab n cs bef ∧ (n = 1 → cs = []) ∧ t_law_made ds = .ok ((n : Int), cs, bef, ()) := by
  obtain ⟨n, cs, bef, a, b, _, c⟩ := lawmade_eq' hd hl
  exact ⟨n, cs, bef, a, b, c⟩
theorem lawsplit_eq {ls : Ln} (g : 1 ≤ ls.length ∧ ls.length ≤ 1000) {m : Int} {n : Nat} (hm : m = (n : Int)) (hn : n ≤ 1000) : t_law_split ls m = .ok (rowsOf ls n) := by
  subst hm
  unfold t_law_split b_law_split
  rw [tLen_ok, tRep_zero _ g.2]
  simp only [thn_ok, tCons_ok]
  rw [tR1_nat (by omega)]
  simp only [thn_ok]
  rw [tFor_rng (s0 := (List.replicate ls.length 0, [List.replicate ls.length 0], ())) (fun i => (dealt ls i, rowsOf ls i, ())) rfl (fun i hi => .inl ?_)]
  · rfl
  · have hl := dealt_len ls i
    have hf : foremost ls (dealt ls i) < ls.length := foremost_lt g.1
    have sm : ∀ j, 0 ≤ bI (dealt ls i) j ∧ bI (dealt ls i) j ≤ 1000 := fun j => by have := dealt_bd ls i j; omega
    unfold b_law_split_l2
    simp only [thn_ok, tLen_ok]
    rw [tR1_nat (by omega)]
    simp only [thn_ok]
    rw [tFor_rng (s0 := ((0 : Int), ())) (fun k => (((foldp ls (dealt ls i) 0 k 0 : Nat) : Int), ())) rfl (fun k hk => .inl ?_)]
    · simp only [bind_nx]
      rw [show foldp ls (dealt ls i) 0 ls.length 0 = foremost ls (dealt ls i) from rfl, tIx_bI rfl (by omega)]
      simp only [tI_ok, iAdd_eq, of_some, tItm_ok]
      rw [tSet_ok rfl (by omega)]
      simp only [thn_ok]
      rw [show (dealt ls i).set (foremost ls (dealt ls i)) (bI (dealt ls i) (foremost ls (dealt ls i)) + 1) = dealt ls (i + 1) from rfl, tAppn_ok, tApp_ok (by rw [rowsOf_len]; omega), rowsOf_succ]
      rfl
    · have hp : foldp ls (dealt ls i) 0 k 0 < ls.length := foldp_lt (by omega) _ (by omega)
      have b1 := sm k
      have b2 := sm (foldp ls (dealt ls i) 0 k 0)
      rw [Int.zero_add]
      unfold b_law_split_l1
      dsimp only
      rw [tIx_bI rfl (by omega), tIx_bI rfl (by omega), tIx_nat rfl (get_line hp), tIx_nat rfl (get_line hk)]
      simp only [tI_ok, iAdd_eq, of_some, map_ok]
      rw [iMul_b (i := bI (dealt ls i) k + 1) (by omega), iMul_b (i := bI (dealt ls i) (foldp ls (dealt ls i) 0 k 0) + 1) (by omega), foldp_succ]
      simp only [of_some, thn_ok, tI_ok, iLt_eq, tIf_ok, pick, decide_eq_true_iff, Nat.zero_add]
      split <;> rfl
theorem lawsplits_eq {n : Int} {cs : List Cov} (h : ∀ c ∈ cs, CovOk n c) (hl : cs.length ≤ 1000) : t_law_splits cs = .ok (rowsS cs) := by
  unfold t_law_splits b_law_splits
  rw [tLc_map (fun c => rowsOf (cL c) (cM c).toNat) (by omega) (fun c hc => by
    have hc' := h c hc
    have hg := hc'.lines.good
    have hm : 0 ≤ c.2.2.2.1 ∧ c.2.2.2.1 ≤ 24 := hc'.most
    unfold b_law_splits_c1
    simp only [map_ok, tPair_ok, bind_ok]
    exact lawsplit_eq (ls := cL c) ⟨hg.pos, by have := hg.few; omega⟩ (n := c.2.2.2.1.toNat) (by omega) (by omega))]
  rfl
theorem lawloads_eq {n : Nat} {cs : List Cov} {bef xs : List Int} (t : Tab n cs bef) (a : Acc cs xs) : t_law_loads cs bef (rowsS cs) xs = .ok (loads cs xs bef) := by
  have hfew := t.few
  unfold t_law_loads b_law_loads
  simp only [thn_ok, tLen_ok]
  rw [tR1_nat (by omega)]
  simp only [thn_ok]
  rw [tFor_rng (s0 := (bef, ())) (fun i => (((cs.zip xs).take i).foldl loadF bef, ())) (by simp) (fun i hi => .inl ?_)]
  · simp only [bind_nx, res_rt]; rw [loads_take a.len]
  · rw [Int.zero_add]
    have ok := t.rows _ (cAt_mem hi)
    have hg := ok.lines.good
    unfold b_law_loads_l2
    rw [rows_get a hi, tIx_nat rfl (get_cAt hi)]
    simp only [thn_ok, map_ok, tLen_ok]
    rw [tR1_nat (by have h4 : (cAt cs i).2.2.2.2.1.length ≤ 4 := hg.few; omega)]
    simp only [thn_ok]
    rw [tFor_rng (s0 := (((cs.zip xs).take i).foldl loadF bef, ())) (fun k => (addP (cL (cAt cs i)) (dealt (cL (cAt cs i)) (bI xs i).toNat) (((cs.zip xs).take i).foldl loadF bef) k, ())) rfl (fun k hk => .inl ?_)]
    · rw [zip_take a.len hi]; rfl
    · rw [Int.zero_add]
      unfold b_law_loads_l1
      have hm := hA_mem hk
      have h1 : 0 ≤ hA (cAt cs i).2.2.2.2.1 k ∧ hA (cAt cs i).2.2.2.2.1 k < 6 := ok.lines.house _ hm
      have h2 : hA (cAt cs i).2.2.2.2.1 k < n ∧ hA (cAt cs i).2.2.2.2.1 k ≠ cH (cAt cs i) := ok.others _ hm
      have hlen : (addP (cL (cAt cs i)) (dealt (cL (cAt cs i)) (bI xs i).toNat) (((cs.zip xs).take i).foldl loadF bef) k).length = n := by rw [addP_len, foldF_len, t.len]
      rw [tIx_nat rfl (get_line hk), tIx_bI rfl (by rw [dealt_len]; exact hk)]
      simp only [map_ok, thn_ok]
      rw [tIx_bI (j := (hA (cAt cs i).2.2.2.2.1 k).toNat) (by omega) (by rw [hlen]; omega)]
      simp only [tI_ok, iAdd_eq, of_some, tItm_ok]
      rw [tSet_ok (j := (hA (cAt cs i).2.2.2.2.1 k).toNat) (by omega) (by rw [hlen]; omega)]
      rfl
theorem lawtake_eq {k : Str} (hk : PyData.strOk k = true) {b m r : Int} (hb : -1000000 ≤ b ∧ b ≤ 1000000) (hm : 0 ≤ m) : t_law_take k b m r = .ok (tk k b m r) := by
  unfold t_law_take b_law_take tk
  simp only [tD_ok, dEq_lit hk ok_share, of_some, tIf_ok, decide_eq_true_iff, tI_ok, iSub_eq, iLe_eq, tMin_ok, thn_ok, abs_rt]
  rw [iMul_c (i := r) (j := b) (by omega)]
  simp only [of_some, tI_ok]
  rw [iDiv_pos (by omega) (by omega)]
  by_cases e : k = "share"
  · rw [if_pos e, if_pos e]; rfl
  · rw [if_neg e, if_neg e]
    unfold iMin iMax
    by_cases h : r ≤ b
    · rw [if_pos h, if_neg (show ¬ r - b > 0 by omega)]
      simp only [res_rt]
      congr 1
      split <;> omega
    · rw [if_neg h, if_pos (show r - b > 0 by omega)]
      rfl
theorem lawpassed_eq {n : Nat} {cs : List Cov} {bef xs : List Int} (t : Tab n cs bef) (a : Acc cs xs) : t_law_passed cs bef (rowsS cs) xs = .ok (asks cs bef xs, lefts cs bef xs, ()) := by
  have hfew := t.few
  unfold t_law_passed b_law_passed
  simp only [bind_ok, tPair_ok, lawloads_eq t a, thn_ok]
  rw [tFor_seq (xs := cs) (s0 := (loads cs xs bef, [], ())) (fun i => (((cs.take i).foldl passF ([], loads cs xs bef)).2, ((cs.take i).foldl passF ([], loads cs xs bef)).1, ())) rfl (fun i c hc => .inl ?_)]
  · rw [List.take_length, passF_pass]
    rfl
  · have hi := (List.getElem?_eq_some_iff.mp hc).1
    have ok := t.rows c (List.mem_of_getElem? hc)
    have hb := byOk_bd ok.by_
    have hl := (foldP_len (cs.take i) ([], loads cs xs bef))
    simp only [loads_len, t.len] at hl
    rw [pass_take hc]
    generalize (cs.take i).foldl passF ([], loads cs xs bef) = s at *
    obtain ⟨s1, s2⟩ := s
    have hl : s2.length = n := hl.1
    have hl2 : s1.length ≤ 16777000 := by have := (foldP_len (cs.take i) ([], loads cs xs bef)).2; simp at *; omega
    have hh : 0 ≤ c.1 ∧ c.1 < n := ok.house
    have hb : 0 ≤ c.2.2.1 ∧ c.2.2.1 ≤ 200 := hb
    unfold b_law_passed_l1
    simp only [tPair_ok]
    rw [tIx_bI (j := c.1.toNat) (by omega) (by rw [hl]; omega)]
    simp only [tPair_ok, bind_ok]
    rw [lawtake_eq (ok_kind ok.by_) (by omega) ok.most.1]
    simp only [thn_ok, tI_ok, iSub_eq, of_some, tItm_ok]
    rw [tSet_ok (j := c.1.toNat) (by omega) (by rw [hl]; omega)]
    simp only [thn_ok, tAppn_ok]
    rw [tApp_ok (by omega)]
    rfl
def accB (cs : List Cov) (xs : List Int) : Bool := decide (xs.length = cs.length ∧ ∀ i, i < cs.length → 0 ≤ bI xs i ∧ bI xs i ≤ cM (cAt cs i))
theorem accB_iff {cs : List Cov} {xs : List Int} : accB cs xs = true ↔ Acc cs xs := by
  unfold accB
  rw [decide_eq_true_iff]
  exact ⟨fun h => ⟨h.1, h.2⟩, fun a => ⟨a.len, a.bd⟩⟩
theorem look_account_eq {n : Nat} {cs : List Cov} {bef xs : List Int} (hc : cs.length ≤ 1000) : t_look_account (mkT n cs bef) xs = if accB cs xs = true then .ok () else .rs ⟨"BadAccount", none⟩ := by
  unfold t_look_account b_look_account
  simp only [bind_ok, tmosts_eq hc, thn_ok, tLen_ok, tD_ok, dNe_int, of_some, tIf_ok]
  have em : (mosts cs).length = cs.length := by simp [mosts]
  by_cases h : xs.length = cs.length
  · have e : (!((xs.length : Int) == ((mosts cs).length : Int))) = false := by simp [h, em]
    rw [e, if_neg (by decide), em, tR1_nat (by omega)]
    simp only [thn_ok]
    rw [tFor_lookx (fun j : Int => decide (bI xs j.toNat < 0) || decide (cM (cAt cs j.toNat) < bI xs j.toNat)) ⟨"BadAccount", none⟩ () (fun j hj => by
      obtain ⟨i, hi, rfl⟩ := List.mem_map.mp hj
      have hi := List.mem_range.mp hi
      unfold b_look_account_l1
      rw [Int.zero_add]
      rw [tIx_bI rfl (by omega), tIx_bI rfl (by omega), bI_mosts hi]
      simp only [tI_ok, iLt_eq, iGt_eq, of_some, tOr_ok, tIf_ok, abs_rs, Int.toNat_natCast])]
    by_cases h2 : ∀ i, i < cs.length → 0 ≤ bI xs i ∧ bI xs i ≤ cM (cAt cs i)
    · rw [if_neg (by
        intro z
        obtain ⟨j, hj, hn⟩ := List.any_eq_true.mp z
        obtain ⟨i, hi, rfl⟩ := List.mem_map.mp hj
        have hi := List.mem_range.mp hi
        simp only [Int.zero_add, Int.toNat_natCast, Bool.or_eq_true, decide_eq_true_iff] at hn
        have := h2 i hi
        omega), if_pos (accB_iff.mpr ⟨h, h2⟩)]
      rfl
    · rw [if_pos (by
        obtain ⟨i, hi⟩ := Classical.not_forall.mp h2
        obtain ⟨hi, hn⟩ := Classical.not_imp.mp hi
        refine List.any_eq_true.mpr ⟨(0 : Int) + (i : Int), List.mem_map.mpr ⟨i, List.mem_range.mpr hi, rfl⟩, ?_⟩
        simp only [Int.zero_add, Int.toNat_natCast, Bool.or_eq_true, decide_eq_true_iff]
        omega), if_neg (fun z => h2 (accB_iff.mp z).bd)]
      rfl
  · have e : (!((xs.length : Int) == ((mosts cs).length : Int))) = true := by rw [em]; simp; omega
    rw [e, if_pos rfl, if_neg (fun z => h (accB_iff.mp z).len)]
    rfl
theorem look_acc_ok {n : Nat} {cs : List Cov} {bef xs : List Int} (t : Tab n cs bef) (a : Acc cs xs) : t_look_account (mkT n cs bef) xs = .ok () := by
  rw [look_account_eq (by have := t.few; omega), if_pos (accB_iff.mpr a)]
theorem look_acc_bad {n : Nat} {cs : List Cov} {bef xs : List Int} (t : Tab n cs bef) (a : accB cs xs = false) : t_look_account (mkT n cs bef) xs = .rs ⟨"BadAccount", none⟩ := by
  rw [look_account_eq (by have := t.few; omega), if_neg (by rw [a]; decide)]
theorem asked_eq {n : Nat} {cs : List Cov} {bef xs : List Int} (t : Tab n cs bef) (a : Acc cs xs) : t_asked (mkT n cs bef) xs = .ok (asks cs bef xs) := by
  unfold t_asked b_asked
  simp only [tPair_ok, bind_ok, look_acc_ok t a, thn_ok, tpassed_eq t a, map_ok, res_rt]
theorem asked_bad {n : Nat} {cs : List Cov} {bef xs : List Int} (t : Tab n cs bef) (a : accB cs xs = false) : t_asked (mkT n cs bef) xs = .rs ⟨"BadAccount", none⟩ := by
  unfold t_asked b_asked
  simp only [tPair_ok, bind_ok, look_acc_bad t a, thn_rs, res_rs]
theorem lawaccount_eq {n : Nat} {cs : List Cov} {bef ds : List Int} (t : Tab n cs bef) (hl : cs.length ≤ ds.length) : ∃ xs, Acc cs xs ∧ t_law_account cs ds = .ok xs := by
  have hfew := t.few
  refine ⟨(rngI 0 cs.length).map fun j : Int => bI ds j.toNat % (cM (cAt cs j.toNat) + 1), ⟨by simp, fun i hi => ?_⟩, ?_⟩
  · have hm := t.most_le hi
    have e : bI ((rngI 0 cs.length).map fun j : Int => bI ds j.toNat % (cM (cAt cs j.toNat) + 1)) i = bI ds i % (cM (cAt cs i) + 1) := by
      unfold bI
      rw [List.getD_eq_getElem?_getD, List.getElem?_map, rngI_get hi]
      simp
    rw [e]
    have h1 := Int.emod_nonneg (bI ds i) (show cM (cAt cs i) + 1 ≠ 0 by omega)
    have h2 := Int.emod_lt_of_pos (bI ds i) (show 0 < cM (cAt cs i) + 1 by omega)
    omega
  · unfold t_law_account b_law_account
    rw [tLen_ok, tR1_nat (by omega), tLc_map (xs := rngI 0 cs.length) (fun j : Int => bI ds j.toNat % (cM (cAt cs j.toNat) + 1)) (by rw [rngI_len]; omega) (fun j hj => by
      obtain ⟨i, hi, rfl⟩ := List.mem_map.mp hj
      have hi := List.mem_range.mp hi
      have hm : 0 ≤ (cAt cs i).2.2.2.1 ∧ (cAt cs i).2.2.2.1 ≤ 24 := t.most_le hi
      unfold b_law_account_c1
      rw [Int.zero_add, tIx_bI rfl (by omega), tIx_nat rfl (get_cAt hi)]
      simp only [map_ok, tI_ok, iAdd_eq, of_some]
      rw [iMod_pos (by omega)]
      rfl)]
    rfl
/-! going on and on, in the program -/
theorem settled_wh {n : Nat} {cs : List Cov} {bef xs : List Int} (t : Tab n cs bef) (a : Acc cs xs) {j : Nat} (h1 : Agrees cs bef (it cs bef j xs)) (h2 : ∀ i, i < j → ¬ Agrees cs bef (it cs bef i xs)) : ∀ (m i : Nat), i + m = j → ∀ f, m < f → (tWh b_settled_t1 (b_settled_l1 (mkT n cs bef)) f (it cs bef i xs, it cs bef (i + 1) xs, ()) : TF Unit ((List Int) × (List Int) × Unit) (List Int) Unit) = .nx (it cs bef j xs, it cs bef (j + 1) xs, ()) := by
  intro m
  induction m with
  | zero =>
    intro i hi f hf
    obtain ⟨f, rfl⟩ : ∃ g, f = g + 1 := ⟨f - 1, by omega⟩
    have hij : i = j := by omega
    rw [tWh_f, hij]
    rw [hij]
    have e : it cs bef (j + 1) xs = it cs bef j xs := by rw [it_succ']; exact h1
    unfold b_settled_t1
    simp only [tD_ok, dNe_ints, of_some, e, decide_true, Bool.not_true]
  | succ m ih => 
    intro i hi f hf
    obtain ⟨f, rfl⟩ : ∃ g, f = g + 1 := ⟨f - 1, by omega⟩
    have e : ¬ (it cs bef (i + 1) xs = it cs bef i xs) := by rw [it_succ']; exact h2 i (by omega)
    have c : b_settled_t1 (it cs bef i xs, it cs bef (i + 1) xs, ()) = .ok true := by
      unfold b_settled_t1
      simp only [tD_ok, dNe_ints, of_some, e, decide_false, Bool.not_false]
    have b : b_settled_l1 (mkT n cs bef) (it cs bef i xs, it cs bef (i + 1) xs, ()) = .nx (it cs bef (i + 1) xs, it cs bef (i + 1 + 1) xs, ()) := by
      unfold b_settled_l1
      simp only [thn_ok, bind_ok, tPair_ok, tpassed_eq t (t.it_acc a (i + 1)), map_ok]
      rw [it_succ' (i + 1)]
    rw [tWh_t c b]
    exact ih (i + 1) (by omega) f (by omega)
theorem settled_eq {n : Nat} {cs : List Cov} {bef xs : List Int} (t : Tab n cs bef) (a : Acc cs xs) {k : Nat} (hk : k ≤ 240) (h : Agrees cs bef (it cs bef k xs)) : t_settled (mkT n cs bef) xs = .ok (settle cs bef xs) := by
  obtain ⟨j, hj, h1, h2, h3⟩ := first_fix hk h
  have w : ∀ f, j < f → (tWh b_settled_t1 (b_settled_l1 (mkT n cs bef)) f (xs, asks cs bef xs, ()) : TF Unit ((List Int) × (List Int) × Unit) (List Int) Unit) = .nx (it cs bef j xs, it cs bef (j + 1) xs, ()) := fun f hf => settled_wh t a h1 h2 j 0 (Nat.zero_add j) f hf
  have w := w 1000 (by omega)
  unfold t_settled b_settled
  rw [h3]
  generalize 1000 = f at *
  simp only [thn_ok, bind_ok, tPair_ok, tpassed_eq t a, map_ok, w, bind_nx, res_rt]
theorem settled_up {n : Nat} {cs : List Cov} {bef xs : List Int} (t : Tab n cs bef) (a : Acc cs xs) (h : Backed cs bef xs) : t_settled (mkT n cs bef) xs = .ok (settle cs bef xs) := by
  obtain ⟨k, h1, h2⟩ := t.up_fix a h
  exact settled_eq t a h1 h2
theorem settled_down {n : Nat} {cs : List Cov} {bef xs : List Int} (t : Tab n cs bef) (a : Acc cs xs) (h : Enough cs bef xs) : t_settled (mkT n cs bef) xs = .ok (settle cs bef xs) := by
  obtain ⟨k, h1, h2⟩ := t.down_fix a h
  exact settled_eq t a h1 h2
theorem mosts_len (cs : List Cov) : (mosts cs).length = cs.length := by simp [mosts]
theorem agrees_eq {n : Nat} {cs : List Cov} {bef xs : List Int} (t : Tab n cs bef) (a : Acc cs xs) : t_agrees (mkT n cs bef) xs = .ok (decide (asks cs bef xs = xs)) := by
  unfold t_agrees b_agrees
  simp only [tPair_ok, bind_ok, asked_eq t a, tD_ok, dEq_ints, of_some, thn_ok, res_rt]
theorem agrees_bad {n : Nat} {cs : List Cov} {bef xs : List Int} (t : Tab n cs bef) (a : accB cs xs = false) : t_agrees (mkT n cs bef) xs = .rs ⟨"BadAccount", none⟩ := by
  unfold t_agrees b_agrees
  simp only [tPair_ok, bind_ok, asked_bad t a]
  rfl
theorem agrees_yes {n : Nat} {cs : List Cov} {bef xs : List Int} (t : Tab n cs bef) (a : Acc cs xs) (h : Agrees cs bef xs) : t_agrees (mkT n cs bef) xs = .ok true := by
  rw [agrees_eq t a, decide_eq_true (show asks cs bef xs = xs from h)]
theorem lies_below_eq {xs ys : List Int} (h : xs.length = ys.length) (hl : xs.length ≤ 1000) : t_lies_below xs ys = .ok (LeB xs ys) := by
  unfold t_lies_below b_lies_below
  rw [tLen_ok, tR1_nat (by omega)]
  simp only [thn_ok]
  rw [tFor_look (fun j : Int => !decide (bI xs j.toNat ≤ bI ys j.toNat)) false (fun j hj => by
    obtain ⟨i, hi, rfl⟩ := List.mem_map.mp hj
    have hi := List.mem_range.mp hi
    unfold b_lies_below_l1
    rw [Int.zero_add, tIx_bI rfl hi, tIx_bI rfl (by omega)]
    simp only [tI_ok, iGt_eq, of_some, tIf_ok, decide_eq_true_iff, Int.toNat_natCast, thn_ok, abs_rt]
    by_cases c : bI ys i < bI xs i
    · simp [c]
    · simp [c])]
  have e : (rngI 0 xs.length).any (fun j : Int => !decide (bI xs j.toNat ≤ bI ys j.toNat)) = !LeB xs ys := by
    unfold LeB rngI
    rw [List.any_map, List.not_all_eq_any_not]
    congr 1
    funext i
    simp
  rw [e]
  cases LeB xs ys <;> rfl
theorem backed_eq {n : Nat} {cs : List Cov} {bef xs : List Int} (t : Tab n cs bef) (a : Acc cs xs) : t_backed (mkT n cs bef) xs = .ok (LeB xs (asks cs bef xs)) := by
  have hfew := t.few
  unfold t_backed b_backed
  simp only [tPair_ok, bind_ok, asked_eq t a]
  rw [lies_below_eq (t.asks_len a) (by rw [a.len]; omega)]
  rfl
theorem backed_bad {n : Nat} {cs : List Cov} {bef xs : List Int} (t : Tab n cs bef) (a : accB cs xs = false) : t_backed (mkT n cs bef) xs = .rs ⟨"BadAccount", none⟩ := by
  unfold t_backed b_backed
  simp only [tPair_ok, bind_ok, asked_bad t a]
  rfl
theorem enough_eq {n : Nat} {cs : List Cov} {bef xs : List Int} (t : Tab n cs bef) (a : Acc cs xs) : t_enough (mkT n cs bef) xs = .ok (LeB (asks cs bef xs) xs) := by
  have hfew := t.few
  unfold t_enough b_enough
  simp only [tPair_ok, bind_ok, asked_eq t a]
  rw [lies_below_eq (t.asks_len a).symm (by rw [(t.asks_acc xs).len]; omega)]
  rfl
theorem enough_bad {n : Nat} {cs : List Cov} {bef xs : List Int} (t : Tab n cs bef) (a : accB cs xs = false) : t_enough (mkT n cs bef) xs = .rs ⟨"BadAccount", none⟩ := by
  unfold t_enough b_enough
  simp only [tPair_ok, bind_ok, asked_bad t a]
  rfl
theorem above_eq {n : Nat} {cs : List Cov} {bef xs : List Int} (t : Tab n cs bef) (a : Acc cs xs) : t_above (mkT n cs bef) xs = if LeB xs (asks cs bef xs) = true then .ok (settle cs bef xs) else .rs ⟨"Unbacked", none⟩ := by
  unfold t_above b_above
  simp only [tPair_ok, bind_ok, backed_eq t a, tNot_ok, tIf_ok]
  cases h : LeB xs (asks cs bef xs) with
  | true =>
    have hb : Backed cs bef xs := (LeB_iff (t.asks_len a)).mp h
    simp [settled_up t a hb]
  | false => simp
theorem above_bad {n : Nat} {cs : List Cov} {bef xs : List Int} (t : Tab n cs bef) (a : accB cs xs = false) : t_above (mkT n cs bef) xs = .rs ⟨"BadAccount", none⟩ := by
  unfold t_above b_above
  simp only [tPair_ok, bind_ok, backed_bad t a]
  rfl
theorem above_yes {n : Nat} {cs : List Cov} {bef xs : List Int} (t : Tab n cs bef) (a : Acc cs xs) (h : Backed cs bef xs) : t_above (mkT n cs bef) xs = .ok (settle cs bef xs) := by
  rw [above_eq t a, if_pos ((LeB_iff (t.asks_len a)).mpr h)]
theorem below_eq {n : Nat} {cs : List Cov} {bef xs : List Int} (t : Tab n cs bef) (a : Acc cs xs) : t_below (mkT n cs bef) xs = if LeB (asks cs bef xs) xs = true then .ok (settle cs bef xs) else .rs ⟨"Short", none⟩ := by
  unfold t_below b_below
  simp only [tPair_ok, bind_ok, enough_eq t a, tNot_ok, tIf_ok]
  cases h : LeB (asks cs bef xs) xs with
  | true =>
    have hb : Enough cs bef xs := (LeB_iff (t.asks_len a).symm).mp h
    simp [settled_down t a hb]
  | false => simp
theorem below_bad {n : Nat} {cs : List Cov} {bef xs : List Int} (t : Tab n cs bef) (a : accB cs xs = false) : t_below (mkT n cs bef) xs = .rs ⟨"BadAccount", none⟩ := by
  unfold t_below b_below
  simp only [tPair_ok, bind_ok, enough_bad t a]
  rfl
theorem below_yes {n : Nat} {cs : List Cov} {bef xs : List Int} (t : Tab n cs bef) (a : Acc cs xs) (h : Enough cs bef xs) : t_below (mkT n cs bef) xs = .ok (settle cs bef xs) := by
  rw [below_eq t a, if_pos ((LeB_iff (t.asks_len a).symm).mpr h)]
theorem dIn_bl2 (a b : Bool) : dIn (.bl false) (eL D.bl [a, b]) = some (!(a && b)) := by cases a <;> cases b <;> rfl
theorem look_both_eq {n : Nat} {cs : List Cov} {bef xs ys : List Int} (t : Tab n cs bef) (a : Acc cs xs) (b : Acc cs ys) : t_look_both (mkT n cs bef) xs ys = if asks cs bef xs = xs ∧ asks cs bef ys = ys then .ok () else .rs ⟨"Disagrees", none⟩ := by
  unfold t_look_both b_look_both
  simp only [tPair_ok, bind_ok, agrees_eq t a, agrees_eq t b, tCons_ok, thn_ok, tD_ok, dIn_bl2, of_some, tIf_ok]
  by_cases h1 : asks cs bef xs = xs
  · by_cases h2 : asks cs bef ys = ys
    · simp [h1, h2]
    · simp [h1, h2]
  · simp [h1]
theorem look_both_bad {n : Nat} {cs : List Cov} {bef xs ys : List Int} (t : Tab n cs bef) (a : accB cs xs = false ∨ accB cs ys = false) : t_look_both (mkT n cs bef) xs ys = .rs ⟨"BadAccount", none⟩ := by
  unfold t_look_both b_look_both
  simp only [tPair_ok, bind_ok]
  cases h : accB cs xs with
  | false => rw [agrees_bad t h]; rfl
  | true =>
    rw [agrees_eq t (accB_iff.mp h)]
    rcases a with a | a
    · rw [h] at a; cases a
    · rw [agrees_bad t a]; rfl
theorem Tab.max_backed {n : Nat} {cs : List Cov} {bef xs ys : List Int} (t : Tab n cs bef) (a : Acc cs xs) (b : Acc cs ys) (h : Agrees cs bef xs) (k : Agrees cs bef ys) : Backed cs bef (vmax xs ys) := by
  have l := le_vmax (xs := xs) (ys := ys) (by rw [a.len, b.len])
  refine vmax_lub ?_ ?_
  · have := t.asks_mono l.1; rw [h] at this; exact this
  · have := t.asks_mono l.2; rw [k] at this; exact this
theorem Tab.min_enough {n : Nat} {cs : List Cov} {bef xs ys : List Int} (t : Tab n cs bef) (a : Acc cs xs) (b : Acc cs ys) (h : Agrees cs bef xs) (k : Agrees cs bef ys) : Enough cs bef (vmin xs ys) := by
  have l := vmin_le (xs := xs) (ys := ys) (by rw [a.len, b.len])
  refine vmin_glb ?_ ?_
  · have := t.asks_mono l.1; rw [h] at this; exact this
  · have := t.asks_mono l.2; rw [k] at this; exact this
def jointA (cs : List Cov) (bef xs ys : List Int) : List Int := settle cs bef (vmax xs ys)
def meetA (cs : List Cov) (bef xs ys : List Int) : List Int := settle cs bef (vmin xs ys)
theorem joint_yes {n : Nat} {cs : List Cov} {bef xs ys : List Int} (t : Tab n cs bef) (a : Acc cs xs) (b : Acc cs ys) (h : Agrees cs bef xs) (k : Agrees cs bef ys) : t_joint (mkT n cs bef) xs ys = .ok (jointA cs bef xs ys) := by
  have hfew := t.few
  have al := a.len
  have bl := b.len
  unfold t_joint b_joint
  simp only [tPair_ok, bind_ok]
  rw [look_both_eq t a b, if_pos ⟨h, k⟩, tLen_ok, tR1_nat (by omega), tLc_map (te := b_joint_c1 xs ys) (fun j : Int => iMax (bI xs j.toNat) (bI ys j.toNat)) (by rw [rngI_len]; omega) (fun j hj => by
    obtain ⟨i, hi, rfl⟩ := List.mem_map.mp hj
    have hi := List.mem_range.mp hi
    unfold b_joint_c1
    rw [Int.zero_add, tIx_bI rfl (by omega), tIx_bI rfl (by omega)]
    rfl)]
  rw [show (rngI 0 xs.length).map (fun j : Int => iMax (bI xs j.toNat) (bI ys j.toNat)) = vmax xs ys from rfl]
  simp only [thn_ok, tPair_ok, bind_ok]
  rw [settled_up t (vmax_acc a b) (t.max_backed a b h k)]
  rfl
theorem meeting_yes {n : Nat} {cs : List Cov} {bef xs ys : List Int} (t : Tab n cs bef) (a : Acc cs xs) (b : Acc cs ys) (h : Agrees cs bef xs) (k : Agrees cs bef ys) : t_meeting (mkT n cs bef) xs ys = .ok (meetA cs bef xs ys) := by
  have hfew := t.few
  have al := a.len
  have bl := b.len
  unfold t_meeting b_meeting
  simp only [tPair_ok, bind_ok]
  rw [look_both_eq t a b, if_pos ⟨h, k⟩, tLen_ok, tR1_nat (by omega), tLc_map (te := b_meeting_c1 xs ys) (fun j : Int => iMin (bI xs j.toNat) (bI ys j.toNat)) (by rw [rngI_len]; omega) (fun j hj => by
    obtain ⟨i, hi, rfl⟩ := List.mem_map.mp hj
    have hi := List.mem_range.mp hi
    unfold b_meeting_c1
    rw [Int.zero_add, tIx_bI rfl (by omega), tIx_bI rfl (by omega)]
    rfl)]
  rw [show (rngI 0 xs.length).map (fun j : Int => iMin (bI xs j.toNat) (bI ys j.toNat)) = vmin xs ys from rfl]
  simp only [thn_ok, tPair_ok, bind_ok]
  rw [settled_down t (vmin_acc a b) (t.min_enough a b h k)]
  rfl
theorem joint_not {n : Nat} {cs : List Cov} {bef xs ys : List Int} (t : Tab n cs bef) (a : Acc cs xs) (b : Acc cs ys) (h : ¬ (Agrees cs bef xs ∧ Agrees cs bef ys)) : t_joint (mkT n cs bef) xs ys = .rs ⟨"Disagrees", none⟩ := by
  unfold t_joint b_joint
  simp only [tPair_ok, bind_ok]
  rw [look_both_eq t a b, if_neg (show ¬ (asks cs bef xs = xs ∧ asks cs bef ys = ys) from h)]; rfl
theorem meeting_not {n : Nat} {cs : List Cov} {bef xs ys : List Int} (t : Tab n cs bef) (a : Acc cs xs) (b : Acc cs ys) (h : ¬ (Agrees cs bef xs ∧ Agrees cs bef ys)) : t_meeting (mkT n cs bef) xs ys = .rs ⟨"Disagrees", none⟩ := by
  unfold t_meeting b_meeting
  simp only [tPair_ok, bind_ok]
  rw [look_both_eq t a b, if_neg (show ¬ (asks cs bef xs = xs ∧ asks cs bef ys = ys) from h)]; rfl
theorem joint_bad {n : Nat} {cs : List Cov} {bef xs ys : List Int} (t : Tab n cs bef) (a : accB cs xs = false ∨ accB cs ys = false) : t_joint (mkT n cs bef) xs ys = .rs ⟨"BadAccount", none⟩ := by
  unfold t_joint b_joint
  simp only [tPair_ok, bind_ok, look_both_bad t a]; rfl
theorem meeting_bad {n : Nat} {cs : List Cov} {bef xs ys : List Int} (t : Tab n cs bef) (a : accB cs xs = false ∨ accB cs ys = false) : t_meeting (mkT n cs bef) xs ys = .rs ⟨"BadAccount", none⟩ := by
  unfold t_meeting b_meeting
  simp only [tPair_ok, bind_ok, look_both_bad t a]; rfl
theorem kept_eq {n : Nat} {cs : List Cov} {bef xs : List Int} (t : Tab n cs bef) (a : Acc cs xs) : t_kept (mkT n cs bef) xs = if asks cs bef xs = xs then .ok (lefts cs bef xs) else .rs ⟨"Disagrees", none⟩ := by
  unfold t_kept b_kept
  simp only [tPair_ok, bind_ok, agrees_eq t a, tNot_ok, tIf_ok, tpassed_eq t a, map_ok, thn_ok]
  by_cases h : asks cs bef xs = xs
  · simp [h]
  · simp [h]
theorem kept_bad {n : Nat} {cs : List Cov} {bef xs : List Int} (t : Tab n cs bef) (a : accB cs xs = false) : t_kept (mkT n cs bef) xs = .rs ⟨"BadAccount", none⟩ := by
  unfold t_kept b_kept
  simp only [tPair_ok, bind_ok, agrees_bad t a]; rfl
theorem kept_yes {n : Nat} {cs : List Cov} {bef xs : List Int} (t : Tab n cs bef) (a : Acc cs xs) (h : Agrees cs bef xs) : t_kept (mkT n cs bef) xs = .ok (lefts cs bef xs) := by
  rw [kept_eq t a, if_pos (show asks cs bef xs = xs from h)]
theorem lawcome_eq {n : Nat} {cs : List Cov} {bef xs : List Int} (t : Tab n cs bef) (a : Acc cs xs) : t_law_come cs bef (rowsS cs) xs = .ok (come cs bef xs) := by
  unfold come
  unfold t_law_come b_law_come
  simp only [thn_ok, bind_ok, tPair_ok, lawpassed_eq t a, map_ok]
  rw [tR1_int (i := 241) (n := 241) rfl (by omega)]
  simp only [thn_ok]
  rw [tFor_rng (s0 := (xs, asks cs bef xs, ())) (fun i => (it cs bef i xs, it cs bef (i + 1) xs, ())) rfl (fun i hi => .inl ?_)]
  · simp only [bind_nx, thn_ok, res_rt]
  · unfold b_law_come_l1
    simp only [tD_ok, dNe_ints, of_some, tIf_ok]
    by_cases e : it cs bef (i + 1) xs = it cs bef i xs
    · have e2 : it cs bef (i + 1 + 1) xs = it cs bef i xs := by rw [it_succ', e, ← it_succ', e]
      simp [e, e2]
    · simp only [e, decide_false, Bool.not_false, if_true, thn_ok, tPair_ok, bind_ok, lawpassed_eq t (t.it_acc a (i + 1)), map_ok, bind_nx]
      rw [it_succ' (i + 1)]
theorem come_up {n : Nat} {cs : List Cov} {bef xs : List Int} (t : Tab n cs bef) (a : Acc cs xs) (h : Backed cs bef xs) : t_law_come cs bef (rowsS cs) xs = .ok (settle cs bef xs) := by
  rw [lawcome_eq t a, come_settle (t.settle_up a h).1]
theorem come_down {n : Nat} {cs : List Cov} {bef xs : List Int} (t : Tab n cs bef) (a : Acc cs xs) (h : Enough cs bef xs) : t_law_come cs bef (rowsS cs) xs = .ok (settle cs bef xs) := by
  rw [lawcome_eq t a, come_settle (t.settle_down a h).1]
theorem lawbelow_eq {xs ys : List Int} (h : xs.length = ys.length) (hl : xs.length ≤ 1000) : t_law_below xs ys = .ok (LeB xs ys) := by
  unfold t_law_below b_law_below
  rw [tLen_ok, tR1_nat (by omega)]
  simp only [thn_ok]
  rw [tFor_look (fun j : Int => !decide (bI xs j.toNat ≤ bI ys j.toNat)) false (fun j hj => by
    obtain ⟨i, hi, rfl⟩ := List.mem_map.mp hj
    have hi := List.mem_range.mp hi
    unfold b_law_below_l1
    rw [Int.zero_add, tIx_bI rfl hi, tIx_bI rfl (by omega)]
    simp only [tI_ok, iGt_eq, of_some, tIf_ok, decide_eq_true_iff, Int.toNat_natCast, thn_ok, abs_rt]
    by_cases c : bI ys i < bI xs i
    · simp [c]
    · simp [c])]
  have e : (rngI 0 xs.length).any (fun j : Int => !decide (bI xs j.toNat ≤ bI ys j.toNat)) = !LeB xs ys := by
    unfold LeB rngI
    rw [List.any_map, List.not_all_eq_any_not]
    congr 1
    funext i
    simp
  rw [e]
  cases LeB xs ys <;> rfl
theorem below_true {xs ys : List Int} (h : Le xs ys) (hl : xs.length ≤ 1000) : t_law_below xs ys = .ok true := by
  rw [lawbelow_eq h.len hl, (LeB_iff h.len).mpr h]
theorem lawleast_eq {n : Nat} {cs : List Cov} {bef : List Int} (t : Tab n cs bef) : t_law_least cs bef (rowsS cs) = .ok (least cs bef) := by
  have hfew := t.few
  unfold t_law_least b_law_least
  simp only [tLen_ok, tRep_zero _ (show cs.length ≤ 1000 by omega), tPair_ok, bind_ok]
  rw [show List.replicate cs.length (0 : Int) = zeros cs from rfl, come_up t t.zeros_acc t.zeros_backed]
  unfold least
  rfl
def dueL (c : Str) : List Bool := (([true] : List Bool) ++ (["BadHouses", "BadLines", "BadCover", "BadCrowns", "BadLosses", "BadAccount", "Unbacked", "Short", "Disagrees", "NoHouse", "NoCover", "NoHappening", "NoLoss", "BadDay", "BadTerms", "Endless", "Same", "Full", "BadDeed", "Nothing", "BadText"] : List Str).map fun s => decide (s = c))
theorem due_of {c : Str} (hc : PyData.strOk c = true) : t_law_due c = .ok (dueL c) := by
  unfold t_law_due b_law_due
  simp only [tCons_ok, thn_ok, tCat_ok]
  rw [if_pos (few_iff.mpr (by decide)), thn_ok, if_pos (few_iff.mpr (by decide)), thn_ok]
  rw [tLc_map (te := b_law_due_c1 c) (fun s => decide (s = c)) (by decide) (fun s hs => by
    unfold b_law_due_c1
    rw [tD_ok, dEq_lit (?_) hc]
    · rfl
    · have key : (["BadHouses", "BadLines", "BadCover", "BadCrowns", "BadLosses", "BadAccount", "Unbacked", "Short", "Disagrees", "NoHouse", "NoCover", "NoHappening", "NoLoss", "BadDay", "BadTerms", "Endless", "Same", "Full", "BadDeed", "Nothing", "BadText"] : List Str).all PyData.strOk = true := by decide +kernel
      exact List.all_eq_true.mp key s hs), tCat_ok, if_pos (few_iff.mpr (by rw [List.length_map]; decide))]
  rfl
/-! doors: what is told or refused -/
theorem burdens_ok {n : Nat} {cs : List Cov} {bef xs : List Int} (t : Tab n cs bef) (a : Acc cs xs) : t_burdens (mkT n cs bef) xs = .ok (loads cs xs bef) := by
  unfold t_burdens b_burdens
  simp only [tPair_ok, bind_ok, look_acc_ok t a, thn_ok, tloads_eq t a, res_rt]
theorem burdens_bad {n : Nat} {cs : List Cov} {bef xs : List Int} (t : Tab n cs bef) (a : accB cs xs = false) : t_burdens (mkT n cs bef) xs = .rs ⟨"BadAccount", none⟩ := by
  unfold t_burdens b_burdens
  simp only [tPair_ok, bind_ok, look_acc_bad t a]; rfl
theorem shows_none {n : Nat} {cs : List Cov} {bef xs : List Int} (t : Tab n cs bef) (a : Acc cs xs) : ∃ r, t_shows (mkT n cs bef) [] xs = .ok r := by
  have hfew := t.few
  unfold t_shows b_shows
  simp only [tPair_ok, bind_ok, look_acc_ok t a, thn_ok, tmosts_eq (show cs.length ≤ 1000 by omega), tLen_ok, mosts_len, tRep_zero _ (show cs.length ≤ 1000 by omega), tFor_nil, bind_nx, tD_ok, dEq_ints, of_some, res_rt]
  exact ⟨_, rfl⟩
theorem shows_bad {n : Nat} {cs : List Cov} {bef xs : List Int} (t : Tab n cs bef) (a : accB cs xs = false) : t_shows (mkT n cs bef) [] xs = .rs ⟨"BadAccount", none⟩ := by
  unfold t_shows b_shows
  simp only [tPair_ok, bind_ok, look_acc_bad t a]; rfl
def Out {α : Type} (r : Res α) : Option Str → Prop
  | none => ∃ a, r = .ok a
  | some c => r = .rs ⟨c, none⟩
def outK (T : YTable) (xs ys : List Int) (o : Option Str) : Nat → Prop
  | 0 => Out (t_burdens T xs) o
  | 1 => Out (t_asked T xs) o
  | 2 => Out (t_agrees T xs) o
  | 3 => Out (t_backed T xs) o
  | 4 => Out (t_enough T xs) o
  | 5 => Out (t_kept T xs) o
  | 6 => Out (t_shows T [] xs) o
  | 7 => Out (t_above T xs) o
  | 8 => Out (t_below T xs) o
  | 9 => Out (t_joint T xs ys) o
  | _ => Out (t_meeting T xs ys) o
def toldO : Option Str → List Bool
  | none => []
  | some c => dueL c
def okO (o : Option Str) : Prop := o = none ∨ o = some "BadAccount" ∨ o = some "Disagrees" ∨ o = some "Unbacked" ∨ o = some "Short"
theorem seen_due {c : Str} (hc : okO (some c)) : ring_ c = some true ∧ seenB_ c = some (dueL c) := by
  rcases hc with e | e | e | e | e
  · cases e
  all_goals
    obtain rfl := Option.some.inj e
    exact ⟨by decide +kernel, by decide +kernel⟩
theorem door_rs {β ρ ε : Type} {c : Str} (hc : okO (some c)) {bs0 : Unit → List Bool → List Bool × Unit} (h : ∀ u bs, bs0 u bs = (bs, ())) (u : Unit) : (tTry ring_ seenB_ (.rs ⟨c, none⟩ u : TF β (List Bool × Unit) ρ Unit) bs0 : TF β (List Bool × Unit) ρ ε) = .nx (dueL c, ()) := by
  obtain ⟨h1, h2⟩ := seen_due hc
  rw [tTry_rs h1 h2, h]
theorem doorK {T : YTable} {xs ys : List Int} {o : Option Str} (ho : okO o) : ∀ k : Nat, k < 11 → outK T xs ys o k → t_law_door (k : Int) T xs ys = .ok (toldO o) := by
  intro k hk h
  have c : k = 0 ∨ k = 1 ∨ k = 2 ∨ k = 3 ∨ k = 4 ∨ k = 5 ∨ k = 6 ∨ k = 7 ∨ k = 8 ∨ k = 9 ∨ k = 10 := by omega
  unfold t_law_door b_law_door
  cases o with
  | none =>
    rcases c with rfl | rfl | rfl | rfl | rfl | rfl | rfl | rfl | rfl | rfl | rfl
    all_goals
      obtain ⟨a, e⟩ := h
      simp only [tPair_ok, bind_ok, e, thn_ok]
      rfl
  | some c' =>
    rcases c with rfl | rfl | rfl | rfl | rfl | rfl | rfl | rfl | rfl | rfl | rfl
    all_goals
      have e := h
      simp only [outK, Out] at e
      simp only [tPair_ok, bind_ok, e, thn_ok, thn_rs]
      have z := door_rs (β := Unit) (ρ := List Bool) (ε := Unit) ho (bs0 := fun (_ : Unit) (v : List Bool) => (v, ())) (fun _ _ => rfl) ()
      refine Eq.trans (congrArg TF.res (congrArg (fun t => TF.bind t _) z)) ?_
      rfl
section
variable {n : Nat} {cs : List Cov} {bef xs ys : List Int}
theorem out_bad (t : Tab n cs bef) (a : accB cs xs = false) : ∀ k, k < 11 → outK (mkT n cs bef) xs ys (some "BadAccount") k
  | 0, _ => burdens_bad t a
  | 1, _ => asked_bad t a
  | 2, _ => agrees_bad t a
  | 3, _ => backed_bad t a
  | 4, _ => enough_bad t a
  | 5, _ => kept_bad t a
  | 6, _ => shows_bad t a
  | 7, _ => above_bad t a
  | 8, _ => below_bad t a
  | 9, _ => joint_bad t (.inl a)
  | 10, _ => meeting_bad t (.inl a)
  | _ + 11, h => absurd h (by omega)
theorem out_bad2 (t : Tab n cs bef) (a : accB cs ys = false) : ∀ k, 8 < k → k < 11 → outK (mkT n cs bef) xs ys (some "BadAccount") k
  | 9, _, _ => joint_bad t (.inr a)
  | 10, _, _ => meeting_bad t (.inr a)
  | 0, h, _ | 1, h, _ | 2, h, _ | 3, h, _ | 4, h, _ | 5, h, _ | 6, h, _ | 7, h, _ | 8, h, _ => absurd h (by omega)
  | _ + 11, _, h => absurd h (by omega)
theorem out_good (t : Tab n cs bef) (a : Acc cs xs) (h : Agrees cs bef xs) : ∀ k, k < 11 → outK (mkT n cs bef) xs xs none k
  | 0, _ => ⟨_, burdens_ok t a⟩
  | 1, _ => ⟨_, asked_eq t a⟩
  | 2, _ => ⟨_, agrees_eq t a⟩
  | 3, _ => ⟨_, backed_eq t a⟩
  | 4, _ => ⟨_, enough_eq t a⟩
  | 5, _ => ⟨_, kept_yes t a h⟩
  | 6, _ => shows_none t a
  | 7, _ => ⟨_, above_yes t a h.backed⟩
  | 8, _ => ⟨_, below_yes t a h.enough⟩
  | 9, _ => ⟨_, joint_yes t a a h h⟩
  | 10, _ => ⟨_, meeting_yes t a a h h⟩
  | _ + 11, h => absurd h (by omega)
theorem out_some (t : Tab n cs bef) (a : Acc cs xs) : ∀ k, k < 11 → ∃ o, okO o ∧ outK (mkT n cs bef) xs ys o k ∧ (k = 0 ∨ k = 1 ∨ k = 2 ∨ k = 3 ∨ k = 4 ∨ k = 6 → o = none)
  | 0, _ => ⟨none, .inl rfl, ⟨_, burdens_ok t a⟩, fun _ => rfl⟩
  | 1, _ => ⟨none, .inl rfl, ⟨_, asked_eq t a⟩, fun _ => rfl⟩
  | 2, _ => ⟨none, .inl rfl, ⟨_, agrees_eq t a⟩, fun _ => rfl⟩
  | 3, _ => ⟨none, .inl rfl, ⟨_, backed_eq t a⟩, fun _ => rfl⟩
  | 4, _ => ⟨none, .inl rfl, ⟨_, enough_eq t a⟩, fun _ => rfl⟩
  | 5, _ => by
    by_cases h : asks cs bef xs = xs
    · exact ⟨none, .inl rfl, ⟨_, (kept_eq t a).trans (if_pos h)⟩, fun z => by omega⟩
    · exact ⟨some "Disagrees", .inr (.inr (.inl rfl)), (kept_eq t a).trans (if_neg h), fun z => by omega⟩
  | 6, _ => ⟨none, .inl rfl, shows_none t a, fun _ => rfl⟩
  | 7, _ => by
    by_cases h : LeB xs (asks cs bef xs) = true
    · exact ⟨none, .inl rfl, ⟨_, (above_eq t a).trans (if_pos h)⟩, fun z => by omega⟩
    · exact ⟨some "Unbacked", .inr (.inr (.inr (.inl rfl))), (above_eq t a).trans (if_neg h), fun z => by omega⟩
  | 8, _ => by
    by_cases h : LeB (asks cs bef xs) xs = true
    · exact ⟨none, .inl rfl, ⟨_, (below_eq t a).trans (if_pos h)⟩, fun z => by omega⟩
    · exact ⟨some "Short", .inr (.inr (.inr (.inr rfl))), (below_eq t a).trans (if_neg h), fun z => by omega⟩
  | 9, _ => by
    cases hb : accB cs ys with
    | false => exact ⟨some "BadAccount", .inr (.inl rfl), joint_bad t (.inr hb), fun z => by omega⟩
    | true =>
      have b := accB_iff.mp hb
      by_cases h : Agrees cs bef xs ∧ Agrees cs bef ys
      · exact ⟨none, .inl rfl, ⟨_, joint_yes t a b h.1 h.2⟩, fun z => by omega⟩
      · exact ⟨some "Disagrees", .inr (.inr (.inl rfl)), joint_not t a b h, fun z => by omega⟩
  | 10, _ => by
    cases hb : accB cs ys with
    | false => exact ⟨some "BadAccount", .inr (.inl rfl), meeting_bad t (.inr hb), fun z => by omega⟩
    | true =>
      have b := accB_iff.mp hb
      by_cases h : Agrees cs bef xs ∧ Agrees cs bef ys
      · exact ⟨none, .inl rfl, ⟨_, meeting_yes t a b h.1 h.2⟩, fun z => by omega⟩
      · exact ⟨some "Disagrees", .inr (.inr (.inl rfl)), meeting_not t a b h, fun z => by omega⟩
  | _ + 11, h => absurd h (by omega)
theorem door_any (t : Tab n cs bef) (xs ys : List Int) {k : Nat} (hk : k < 11) : ∃ bs, t_law_door (k : Int) (mkT n cs bef) xs ys = .ok bs := by
  cases h : accB cs xs with
  | false => exact ⟨_, doorK (.inr (.inl rfl)) k hk (out_bad t h k hk)⟩
  | true =>
    obtain ⟨o, o1, o2, _⟩ := out_some (ys := ys) t (accB_iff.mp h) k hk
    exact ⟨_, doorK o1 k hk o2⟩
end
theorem cutL_le {α : Type} (xs : List α) (lo hi : Option Int) : (cutL xs lo hi).length ≤ xs.length := by
  unfold cutL; simp; omega
theorem spoilt_eq {xs ms ds : List Int} (hx : xs.length ≤ 10) (hm : ms.length = xs.length) (hd : Row ds) (hl : ds.length = 3) : ∃ ys, t_law_spoilt xs ms ds = .ok ys ∧ ys.length ≤ 100 := by
  have i0 : tIx (.ok ds) (.ok (0 : Int)) = .ok (bI ds 0) := tIx_bI rfl (by omega)
  have i1 : tIx (.ok ds) (.ok (1 : Int)) = .ok (bI ds 1) := tIx_bI rfl (by omega)
  have i2 : tIx (.ok ds) (.ok (2 : Int)) = .ok (bI ds 2) := tIx_bI rfl (by omega)
  have p20 : iPow 10 20 = some 100000000000000000000 := by rfl
  unfold t_law_spoilt b_law_spoilt
  simp only [i0, i1, i2, tI_ok, iMod_pos (show (0 : Int) < 6 by omega), iMod_pos (show (0 : Int) < 3 by omega), of_some, thn_ok, tLen_ok, tD_ok, dEq_int, tCons_ok, p20]
  by_cases c : xs.length = 0
  · have : ((xs.length : Int) == 0) = true := by simpa using c
    rw [this]
    exact ⟨[bI ds 1], rfl, by simp⟩
  · have : ((xs.length : Int) == 0) = false := by simp; intro z; exact c (by rw [z]; rfl)
    rw [this]
    obtain ⟨q, hq, hql⟩ := emod_nat (a := bI ds 1) (b := (xs.length : Int)) (by omega)
    simp only [tIf_ok, Bool.false_eq_true, if_false]
    rw [iMod_pos (by omega), hq]
    simp only [of_some, thn_ok, map_ok, tSl_ok, tI_ok, iAdd_eq, iSub_eq]
    rw [tIx_bI (xs := ms) rfl (by omega)]
    simp only [of_some, thn_ok, map_ok, tSl_ok, tI_ok, iAdd_eq, iSub_eq, tCons_ok, tCat_ok]
    have k1 := cutL_le xs none (some (q : Int))
    have k2 := cutL_le xs (some ((q : Int) + 1)) none
    have k3 := cutL_le xs (some (q : Int)) none
    generalize cutL xs none (some (q : Int)) = l1 at *
    generalize cutL xs (some ((q : Int) + 1)) none = l2 at *
    generalize cutL xs (some (q : Int)) none = l3 at *
    have f1 : ∀ v : Int, few (l1.length + [v].length) = true := fun v => few_iff.mpr (by simp; omega)
    have f2 : ∀ v : Int, few ((l1 ++ [v]).length + l2.length) = true := fun v => few_iff.mpr (by simp; omega)
    have f3 : ∀ v : Int, few ((l1 ++ [v]).length + l3.length) = true := fun v => few_iff.mpr (by simp; omega)
    have f4 : few (l1.length + l2.length) = true := few_iff.mpr (by omega)
    simp only [f1, f2, f3, f4, if_true, thn_ok, tCat_ok]
    generalize (bI ds 0 % 6 == 1) = b1
    generalize (bI ds 0 % 6 == 2) = b2
    generalize (bI ds 0 % 6 == 3) = b3
    generalize (bI ds 0 % 6 == 4) = b4
    generalize (bI ds 0 % 6 == 5) = b5
    cases b1
    · cases b2
      · cases b3
        · cases b4
          · cases b5
            · exact ⟨_, rfl, by omega⟩
            · exact ⟨_, rfl, by simp; omega⟩
          · exact ⟨_, rfl, by simp; omega⟩
        · exact ⟨_, rfl, by simp; omega⟩
      · exact ⟨_, rfl, by simp; omega⟩
    · exact ⟨_, rfl, by simp; omega⟩
theorem dIn_six (k : Nat) (hk : k < 11) : dIn (.int (k : Int)) (eS D.int [0, 1, 2, 3, 4, 6]) = some (decide (k = 0 ∨ k = 1 ∨ k = 2 ∨ k = 3 ∨ k = 4 ∨ k = 6)) := by
  have c : k = 0 ∨ k = 1 ∨ k = 2 ∨ k = 3 ∨ k = 4 ∨ k = 5 ∨ k = 6 ∨ k = 7 ∨ k = 8 ∨ k = 9 ∨ k = 10 := by omega
  rcases c with rfl | rfl | rfl | rfl | rfl | rfl | rfl | rfl | rfl | rfl | rfl <;> rfl
theorem due_ne : ¬ (dueL "BadAccount" = []) := by decide +kernel
theorem law13_l1 {n : Nat} {cs : List Cov} {bef good drawn bad : List Int} (t : Tab n cs bef) (a : Acc cs good) (h : Agrees cs bef good) {due : List Bool} (hd : (due = [] ∧ accB cs bad = true) ∨ (due = dueL "BadAccount" ∧ accB cs bad = false)) :
    (tFor (b_law_l1 (mkT n cs bef) good drawn bad (due, ())) (rngI 0 11) () : TF β Unit Bool Unit) = .nx () := by
  rw [tFor_rng (fun _ => ()) rfl (fun k hk => .inl ?_)]
  have g := doorK (.inl rfl) k hk (out_good t a h k hk)
  obtain ⟨d1, e1⟩ := door_any t bad good hk
  obtain ⟨d2, e2⟩ := door_any t good bad hk
  obtain ⟨d3, e3⟩ := door_any t bad bad hk
  obtain ⟨d4, e4⟩ := door_any t drawn bad hk
  unfold b_law_l1
  rw [Int.zero_add]
  simp only [tPair_ok, bind_ok, e1, e2, e3, e4, g, thn_ok, tCons_ok, tD_ok, dEq_bls, dNe_bls, dIn_six k hk, of_some, tAnd_ok, tOr_ok, tI_ok, iGt_eq, toldO, decide_true, Bool.not_true]
  rcases hd with ⟨rfl, hb⟩ | ⟨rfl, hb⟩
  · simp only [decide_true, Bool.true_and, Bool.not_true, Bool.false_and, tIf_ok, Bool.false_eq_true, if_false]
    obtain ⟨o, o1, o2, o3⟩ := out_some (ys := good) t (accB_iff.mp hb) k hk
    have := doorK o1 k hk o2
    rw [this] at e1
    by_cases c : k = 0 ∨ k = 1 ∨ k = 2 ∨ k = 3 ∨ k = 4 ∨ k = 6
    · rw [o3 c] at e1
      obtain rfl := Res.ok.inj e1
      simp [toldO]
    · simp [c]
  · have w1 := doorK (.inr (.inl rfl)) k hk (out_bad (ys := good) t hb k hk)
    have w3 := doorK (.inr (.inl rfl)) k hk (out_bad (ys := bad) t hb k hk)
    rw [w1] at e1
    rw [w3] at e3
    obtain rfl := Res.ok.inj e1
    obtain rfl := Res.ok.inj e3
    simp only [due_ne, decide_false, Bool.false_and, Bool.not_false, Bool.true_and, toldO, decide_true, Bool.not_true, Bool.or_false, tIf_ok, Bool.false_eq_true, if_false]
    by_cases c : 8 < k
    · have w2 := doorK (.inr (.inl rfl)) k hk (out_bad2 (xs := good) t hb k c hk)
      have w4 := doorK (.inr (.inl rfl)) k hk (out_bad2 (xs := drawn) t hb k c hk)
      rw [w2] at e2
      rw [w4] at e4
      obtain rfl := Res.ok.inj e2
      obtain rfl := Res.ok.inj e4
      simp [toldO]
    · have : decide ((k : Int) > 8) = false := by simp; omega
      rw [this]; simp
theorem law_true (ns : List Int) (h : ns.length ≤ 63) : t_law ns = .ok true := by
  obtain ⟨ds, d1, d2, d3⟩ := draws_eq ns h (m := 130) 130 rfl (by omega)
  obtain ⟨n, cs, bef, t, t1, t2⟩ := lawmade_eq d2 (by omega)
  have hfew := t.few
  obtain ⟨xs, a, a2⟩ := lawaccount_eq (ds := (ds.drop 113).take (123 - 113)) t (by rw [cut_len (by omega) (by omega)]; omega)
  obtain ⟨ys, b, b2⟩ := lawaccount_eq (ds := (ds.drop 100).take (110 - 100)) t (by rw [cut_len (by omega) (by omega)]; omega)
  have bl := b.len
  obtain ⟨zs, s1, s2⟩ := spoilt_eq (xs := ys) (ms := mosts cs) (ds := (ds.drop 110).take (113 - 110)) (by omega) (by rw [mosts_len]; omega) (d2.slice 110 (113 - 110)) (by rw [cut_len (by omega) (by omega)])
  have L := t.least_ok
  unfold t_law b_law
  simp only [tPair_ok, bind_ok, d3, thn_ok, t2, table_eq t rfl, lawsplits_eq t.rows (show cs.length ≤ 1000 by omega), lawleast_eq t, map_ok, tSl_ok]
  rw [tLc_map (te := b_law_c1) cM (by omega) (fun c _ => rfl), show cs.map cM = mosts cs from rfl, cutL_in (lo := 113) (hi := 123) (i := 113) (j := 123) rfl rfl (by omega) (by omega), cutL_in (lo := 100) (hi := 110) (i := 100) (j := 110) rfl rfl (by omega) (by omega), cutL_in (lo := 110) (hi := 113) (i := 110) (j := 113) rfl rfl (by omega) (by omega)]
  simp only [tPair_ok, bind_ok, a2, b2, s1, thn_ok, due_of (c := "BadAccount") (by decide +kernel), tLen_ok, tD_ok, dEq_int, of_some, mosts_len]
  have fin : ∀ due : List Bool, ((due = [] ∧ accB cs zs = true) ∨ (due = dueL "BadAccount" ∧ accB cs zs = false)) → ((tR1 (Res.ok (11 : Int))).thn () fun qs => (tFor (b_law_l1 (mkT n cs bef) (least cs bef) xs zs (due, ())) qs ()).bind fun v14 => ((Res.ok true).thn () fun a => .rt a) : TF Unit Empty Bool Unit).res = .ok true := fun due hd => by
    rw [show (11 : Int) = ((11 : Nat) : Int) from rfl, tR1_nat (by omega), thn_ok, law13_l1 t L.2.1 L.1 hd]; rfl
  by_cases c1 : zs.length = cs.length
  · have k1 : ((zs.length : Int) == (cs.length : Int)) = true := by simp [c1]
    have ml : zs.length = (mosts cs).length := by rw [mosts_len]; exact c1
    rw [k1, tAnd_t, lawbelow_eq ml (by omega)]
    cases hB : LeB zs (mosts cs) with
    | false =>
      refine fin _ (.inr ⟨rfl, ?_⟩)
      cases hc : accB cs zs with
      | false => rfl
      | true =>
        have := (accB_iff.mp hc).le_mosts
        rw [← LeB_iff ml] at this
        rw [hB] at this; cases this
    | true =>
      have zl : (List.replicate zs.length (0 : Int)).length = zs.length := by simp
      rw [tRep_zero _ (by omega)]
      simp only [tIf_ok, if_true, tPair_ok, bind_ok]
      rw [lawbelow_eq zl (by rw [zl]; omega)]
      cases hZ : LeB (List.replicate zs.length 0) zs with
      | false =>
        refine fin _ (.inr ⟨rfl, ?_⟩)
        cases hc : accB cs zs with
        | false => rfl
        | true =>
          have := (accB_iff.mp hc).zeros_le
          rw [show zeros cs = List.replicate zs.length 0 by unfold zeros; rw [c1], ← LeB_iff zl] at this
          rw [hZ] at this; cases this
      | true =>
        refine fin _ (.inl ⟨rfl, ?_⟩)
        have z1 := (LeB_iff ml).mp hB
        have z2 := (LeB_iff zl).mp hZ
        refine accB_iff.mpr ⟨c1, fun i hi => ⟨?_, ?_⟩⟩
        · have := z2.le i; rwa [bI_rep] at this
        · have := z1.le i; rwa [bI_mosts hi] at this
  · have k1 : ((zs.length : Int) == (cs.length : Int)) = false := by simp; intro z; exact c1 (by omega)
    rw [k1, tAnd_f]
    refine fin _ (.inr ⟨rfl, ?_⟩)
    cases hc : accB cs zs with
    | false => rfl
    | true => exact absurd (accB_iff.mp hc).len c1
end RC

set_option Elab.async false
set_option linter.all false
set_option maxRecDepth 100000
set_option maxHeartbeats 4000000

namespace RC
open PySem PySem.Spec PyProof.Rows L2
def topS (i : Nat) : Stmt := PySem.Challenge.pw_ringcede_k13_bad_accounts.main.body.getD i (.Pass ⟨0, 0, 0, 0⟩)
structure Tx (K : PySem.W.Frag) (mg : Str → Option Value) where
  b_ValueError : mg "ValueError" = none
  b_isinstance : mg "isinstance" = none
  b_len : mg "len" = none
  b_list : mg "list" = none
  b_max : mg "max" = none
  b_min : mg "min" = none
  b_range : mg "range" = none
  b_tuple : mg "tuple" = none
  tk_MOST_SIGNERS : Tok
  c_MOST_SIGNERS : mg "MOST_SIGNERS" = some (.int 4 tk_MOST_SIGNERS)
  tk_MOST_HOUSES : Tok
  c_MOST_HOUSES : mg "MOST_HOUSES" = some (.int 6 tk_MOST_HOUSES)
  tk_MOST_LINE : Tok
  c_MOST_LINE : mg "MOST_LINE" = some (.int 20 tk_MOST_LINE)
  tk_MOST_POINT : Tok
  c_MOST_POINT : mg "MOST_POINT" = some (.int 200 tk_MOST_POINT)
  tk_MOST : Tok
  c_MOST : mg "MOST" = some (.int 24 tk_MOST)
  C_BadHouses : Addr
  x_BadHouses : Xc ⟨K, mg⟩ "BadHouses" C_BadHouses
  tk_MOST_COVERS : Tok
  c_MOST_COVERS : mg "MOST_COVERS" = some (.int 10 tk_MOST_COVERS)
  C_BadCover : Addr
  x_BadCover : Xc ⟨K, mg⟩ "BadCover" C_BadCover
  C_BadLosses : Addr
  x_BadLosses : Xc ⟨K, mg⟩ "BadLosses" C_BadLosses
  tk_MOST_LOSS : Tok
  c_MOST_LOSS : mg "MOST_LOSS" = some (.int 9999 tk_MOST_LOSS)
  C_BadAccount : Addr
  x_BadAccount : Xc ⟨K, mg⟩ "BadAccount" C_BadAccount
  C_Unbacked : Addr
  x_Unbacked : Xc ⟨K, mg⟩ "Unbacked" C_Unbacked
  C_Short : Addr
  x_Short : Xc ⟨K, mg⟩ "Short" C_Short
  C_Disagrees : Addr
  x_Disagrees : Xc ⟨K, mg⟩ "Disagrees" C_Disagrees
  C_BadLines : Addr
  C_BadCrowns : Addr
  C_NoHouse : Addr
  C_BadDay : Addr
  C_NoLoss : Addr
  C_NoHappening : Addr
  C_NoCover : Addr
  C_Full : Addr
  C_Same : Addr
  C_Endless : Addr
  C_BadTerms : Addr
  C_BadText : Addr
  C_Nothing : Addr
  C_BadDeed : Addr
  C_RingError : Addr
  g_BadCover : mg "BadCover" = some (.ref C_BadCover)
  g_BadLines : mg "BadLines" = some (.ref C_BadLines)
  g_BadHouses : mg "BadHouses" = some (.ref C_BadHouses)
  g_BadAccount : mg "BadAccount" = some (.ref C_BadAccount)
  g_BadLosses : mg "BadLosses" = some (.ref C_BadLosses)
  g_BadCrowns : mg "BadCrowns" = some (.ref C_BadCrowns)
  g_NoHouse : mg "NoHouse" = some (.ref C_NoHouse)
  g_Disagrees : mg "Disagrees" = some (.ref C_Disagrees)
  g_Short : mg "Short" = some (.ref C_Short)
  g_Unbacked : mg "Unbacked" = some (.ref C_Unbacked)
  g_BadDay : mg "BadDay" = some (.ref C_BadDay)
  g_NoLoss : mg "NoLoss" = some (.ref C_NoLoss)
  g_NoHappening : mg "NoHappening" = some (.ref C_NoHappening)
  g_NoCover : mg "NoCover" = some (.ref C_NoCover)
  g_Full : mg "Full" = some (.ref C_Full)
  g_Same : mg "Same" = some (.ref C_Same)
  g_Endless : mg "Endless" = some (.ref C_Endless)
  g_BadTerms : mg "BadTerms" = some (.ref C_BadTerms)
  g_BadText : mg "BadText" = some (.ref C_BadText)
  g_Nothing : mg "Nothing" = some (.ref C_Nothing)
  g_BadDeed : mg "BadDeed" = some (.ref C_BadDeed)
  g_RingError : mg "RingError" = some (.ref C_RingError)
  C_Table : Addr
  g_Table : mg "Table" = some (.ref C_Table)
  cls_Table : Cls K C_Table
  na_Table_befell : NoAttr K C_Table "befell"
  na_Table_rows : NoAttr K C_Table "rows"
  na_Table_size : NoAttr K C_Table "size"
  na_Table_splits : NoAttr K C_Table "splits"
structure SeenF {K : PySem.W.Frag} {mg : Str → Option Value} (T : Tx K mg) (C : Addr) (c : Str) : Prop where
  ex : ExcC K C
  k_ValueError : PySem.W.kitOne K (.ref C) (.type "ValueError") = some (isT c "ValueError")
  k_BadHouses : PySem.W.kitOne K (.ref C) (.ref T.C_BadHouses) = some (isT c "BadHouses")
  k_BadLines : PySem.W.kitOne K (.ref C) (.ref T.C_BadLines) = some (isT c "BadLines")
  k_BadCover : PySem.W.kitOne K (.ref C) (.ref T.C_BadCover) = some (isT c "BadCover")
  k_BadCrowns : PySem.W.kitOne K (.ref C) (.ref T.C_BadCrowns) = some (isT c "BadCrowns")
  k_BadLosses : PySem.W.kitOne K (.ref C) (.ref T.C_BadLosses) = some (isT c "BadLosses")
  k_BadAccount : PySem.W.kitOne K (.ref C) (.ref T.C_BadAccount) = some (isT c "BadAccount")
  k_Unbacked : PySem.W.kitOne K (.ref C) (.ref T.C_Unbacked) = some (isT c "Unbacked")
  k_Short : PySem.W.kitOne K (.ref C) (.ref T.C_Short) = some (isT c "Short")
  k_Disagrees : PySem.W.kitOne K (.ref C) (.ref T.C_Disagrees) = some (isT c "Disagrees")
  k_NoHouse : PySem.W.kitOne K (.ref C) (.ref T.C_NoHouse) = some (isT c "NoHouse")
  k_NoCover : PySem.W.kitOne K (.ref C) (.ref T.C_NoCover) = some (isT c "NoCover")
  k_NoHappening : PySem.W.kitOne K (.ref C) (.ref T.C_NoHappening) = some (isT c "NoHappening")
  k_NoLoss : PySem.W.kitOne K (.ref C) (.ref T.C_NoLoss) = some (isT c "NoLoss")
  k_BadDay : PySem.W.kitOne K (.ref C) (.ref T.C_BadDay) = some (isT c "BadDay")
  k_BadTerms : PySem.W.kitOne K (.ref C) (.ref T.C_BadTerms) = some (isT c "BadTerms")
  k_Endless : PySem.W.kitOne K (.ref C) (.ref T.C_Endless) = some (isT c "Endless")
  k_Same : PySem.W.kitOne K (.ref C) (.ref T.C_Same) = some (isT c "Same")
  k_Full : PySem.W.kitOne K (.ref C) (.ref T.C_Full) = some (isT c "Full")
  k_BadDeed : PySem.W.kitOne K (.ref C) (.ref T.C_BadDeed) = some (isT c "BadDeed")
  k_Nothing : PySem.W.kitOne K (.ref C) (.ref T.C_Nothing) = some (isT c "Nothing")
  k_BadText : PySem.W.kitOne K (.ref C) (.ref T.C_BadText) = some (isT c "BadText")
section
variable {P : Program} {w : World} {K : PySem.W.Frag} {mg : Str → Option Value} {base : Heap}
abbrev s_are_lines : Stmt := topS 28
theorem sc_are_lines : FnScope ["lines", "seen", "house", "line"] ["lines"] (defScope s_are_lines) := ⟨rfl, rfl, rfl, by decide +kernel, rfl, by decide +kernel, by decide +kernel⟩
theorem ok_are_lines {f : Addr} {fd : FuncData} (F : Fun K "are_lines" "are_lines" s_are_lines f fd) (T : Tx K mg) : FnOk P w K mg base (L2.CX P w) 1 f fd ["lines"] (spF ⟨K, mg⟩ f_are_lines) :=
  rf_ok (k := 0) (m := m_are_lines) F sc_are_lines (by decide) fun cdv A outer s H E om0 H0 v0 W hr ks => by
    have kx := ks.toKx
    exact (ss_cons (s_if (PW.pt (tw_or (t_lt (r_len kx T.b_len (ra_cons (r_var (pv 0)) ra_nil)) r_int) (pw_or1 (t_gt (r_len kx T.b_len (ra_cons (r_var (pv 0)) ra_nil)) (r_globI rfl T.c_MOST_SIGNERS))))) (ss_one (s_ret (c_up r_bl))) ss_nil) (ss_cons (s_own (i := 1) kx rfl (by first | exact Or.inl rfl | exact Or.inr rfl) (r_lst ra_nil)) (ss_cons (s_forT ks (r_var (pv 0)) (g_tup kx (gs_cons (g_name (i := 2) kx.nd rfl (by first | exact Or.inl rfl | exact Or.inr rfl)) (gs_cons (g_name (i := 3) kx.nd rfl (by first | exact Or.inl rfl | exact Or.inr rfl)) gs_nil))) (ss_cons (s_if (PW.pt (tw_or (t_lt (r_var (pv 2)) r_int) (tw_or (t_ge (r_var (pv 2)) (r_globI rfl T.c_MOST_HOUSES)) (tw_or (t_in kx (r_var (pv 2)) (r_var (pv 1))) (tw_or (t_lt (r_var (pv 3)) r_int) (pw_or1 (t_gt (r_var (pv 3)) (r_globI rfl T.c_MOST_LINE)))))))) (ss_one (s_ret (c_up r_bl))) ss_nil) (ss_cons (s_app (pv 1) (r_var (pv 2))) (ss_wp [2, 3] ss_nil)))) (ss_one (s_ret (c_up r_bl))))))
abbrev s_foremost : Stmt := topS 29
theorem sc_foremost : FnScope ["lines", "borne", "best", "at"] ["lines", "borne"] (defScope s_foremost) := ⟨rfl, rfl, rfl, by decide +kernel, rfl, by decide +kernel, by decide +kernel⟩
theorem ok_foremost {f : Addr} {fd : FuncData} (F : Fun K "foremost" "foremost" s_foremost f fd) (T : Tx K mg) : FnOk P w K mg base (L2.CX P w) 1 f fd ["lines", "borne"] (spF ⟨K, mg⟩ f_foremost) :=
  rf_ok (k := 0) (m := m_foremost) F sc_foremost (by decide) fun cdv A outer s H E om0 H0 v0 W hr ks => by
    have kx := ks.toKx
    exact (ss_cons (s_set (i := 2) kx rfl (by first | exact Or.inl rfl | exact Or.inr rfl) r_int) (ss_cons (s_forR2 ks T.b_range (ra_cons r_int (ra_cons (r_len kx T.b_len (ra_cons (r_var (pv 0)) ra_nil)) ra_nil)) (g_name (i := 3) kx.nd rfl (by first | exact Or.inl rfl | exact Or.inr rfl)) (ss_cons (s_if (t_lt (r_mul (r_add (r_ix kx (r_var (pv 1)) (r_var (pv 3))) r_int) (r_ix kx (r_ix kx (r_var (pv 0)) (r_var (pv 2))) r_int)) (r_mul (r_add (r_ix kx (r_var (pv 1)) (r_var (pv 2))) r_int) (r_ix kx (r_ix kx (r_var (pv 0)) (r_var (pv 3))) r_int))) (ss_cons (s_set (i := 2) kx rfl (by first | exact Or.inl rfl | exact Or.inr rfl) (r_var (pv 3))) ss_nil) ss_nil) (ss_wp [3] ss_nil))) (ss_one (s_ret (c_up (r_var (pv 2)))))))
abbrev s_grown_parts : Stmt := topS 30
theorem sc_grown_parts : FnScope ["lines", "most", "borne", "rows", "crown"] ["lines", "most"] (defScope s_grown_parts) := ⟨rfl, rfl, rfl, by decide +kernel, rfl, by decide +kernel, by decide +kernel⟩
theorem ok_grown_parts {f : Addr} {fd : FuncData} (F : Fun K "grown_parts" "grown_parts" s_grown_parts f fd) (T : Tx K mg) (c_foremost : Cl P w ⟨K, mg⟩ base 1 "foremost" f_foremost) : FnOk P w K mg base (L2.CX P w) 2 f fd ["lines", "most"] (spF ⟨K, mg⟩ f_grown_parts) :=
  rf_ok (k := 1) (m := m_grown_parts) F sc_grown_parts (by decide) fun cdv A outer s H E om0 H0 v0 W hr ks => by
    have kx := ks.toKx
    exact (ss_cons (s_own (i := 2) kx rfl (by first | exact Or.inl rfl | exact Or.inr rfl) (r_rep (c_op (r_lst (ra_cons r_int ra_nil))) (r_len kx T.b_len (ra_cons (r_var (pv 0)) ra_nil)))) (ss_cons (s_own (i := 3) kx rfl (by first | exact Or.inl rfl | exact Or.inr rfl) (r_lst (ra_cons (c_op (r_listc kx T.b_list (ra_cons (r_var (pv 2)) ra_nil))) ra_nil))) (ss_cons (s_forR1 ks T.b_range (ra_cons (r_var (pv 1)) ra_nil) (g_name (i := 4) kx.nd rfl (by first | exact Or.inl rfl | exact Or.inr rfl)) (ss_cons (s_augI ip_add (pv 2) (c_op (r_call kx c_foremost (hr.mono (by decide)) (ra_cons (r_var (pv 0)) (ra_cons (r_var (pv 2)) ra_nil)))) r_int) (ss_cons (s_app (pv 3) (c_op (r_listc kx T.b_list (ra_cons (r_var (pv 2)) ra_nil)))) (ss_wp [4] ss_nil)))) (ss_one (s_retO (pv 3))))))
abbrev s_is_by : Stmt := topS 33
theorem sc_is_by : FnScope ["kind", "by"] ["kind", "by"] (defScope s_is_by) := ⟨rfl, rfl, rfl, by decide +kernel, rfl, by decide +kernel, by decide +kernel⟩
theorem ok_is_by {f : Addr} {fd : FuncData} (F : Fun K "is_by" "is_by" s_is_by f fd) (T : Tx K mg) : FnOk P w K mg base (L2.CX P w) 1 f fd ["kind", "by"] (spF ⟨K, mg⟩ f_is_by) :=
  rf_ok (k := 0) (m := m_is_by) F sc_is_by (by decide) fun cdv A outer s H E om0 H0 v0 W hr ks => by
    have kx := ks.toKx
    exact (ss_cons (s_if (t_eq kx (r_var (pv 0)) r_str) (ss_one (s_ret (c_up (r_and (v_ge (r_var (pv 1)) r_int) (pe_one (v_le (r_var (pv 1)) r_int)))))) ss_nil) (ss_one (s_ret (c_up (r_and (v_eq kx (r_var (pv 0)) r_str) (r_and (v_ge (r_var (pv 1)) r_int) (pe_one (v_le (r_var (pv 1)) (r_globI rfl T.c_MOST_POINT)))))))))
abbrev s_is_cover : Stmt := topS 34
theorem sc_is_cover : FnScope ["houses", "cover", "house", "kind", "by", "most", "lines", "signer", "line"] ["houses", "cover"] (defScope s_is_cover) := ⟨rfl, rfl, rfl, by decide +kernel, rfl, by decide +kernel, by decide +kernel⟩
theorem ok_is_cover {f : Addr} {fd : FuncData} (F : Fun K "is_cover" "is_cover" s_is_cover f fd) (T : Tx K mg) (c_are_lines : Cl P w ⟨K, mg⟩ base 1 "are_lines" f_are_lines) (c_is_by : Cl P w ⟨K, mg⟩ base 1 "is_by" f_is_by) : FnOk P w K mg base (L2.CX P w) 2 f fd ["houses", "cover"] (spF ⟨K, mg⟩ f_is_cover) :=
  rf_ok (k := 1) (m := m_is_cover) F sc_is_cover (by decide) fun cdv A outer s H E om0 H0 v0 W hr ks => by
    have kx := ks.toKx
    exact (ss_cons (s_if (t_ne kx (r_len kx T.b_len (ra_cons (r_var (pv 1)) ra_nil)) r_int) (ss_one (s_ret (c_up r_bl))) ss_nil) (ss_cons (s_unp (r_var (pv 1)) (g_tup kx (gs_cons (g_name (i := 2) kx.nd rfl (by first | exact Or.inl rfl | exact Or.inr rfl)) (gs_cons (g_name (i := 3) kx.nd rfl (by first | exact Or.inl rfl | exact Or.inr rfl)) (gs_cons (g_name (i := 4) kx.nd rfl (by first | exact Or.inl rfl | exact Or.inr rfl)) (gs_cons (g_name (i := 5) kx.nd rfl (by first | exact Or.inl rfl | exact Or.inr rfl)) (gs_cons (g_name (i := 6) kx.nd rfl (by first | exact Or.inl rfl | exact Or.inr rfl)) gs_nil))))))) (ss_cons (s_if (PW.pt (tw_or (t_lt (r_var (pv 2)) r_int) (tw_or (t_ge (r_var (pv 2)) (r_var (pv 0))) (tw_or (t_not (t_val (c_op (r_call kx c_is_by (hr.mono (by decide)) (ra_cons (r_var (pv 3)) (ra_cons (r_var (pv 4)) ra_nil)))))) (tw_or (t_lt (r_var (pv 5)) r_int) (pw_or1 (t_gt (r_var (pv 5)) (r_globI rfl T.c_MOST)))))))) (ss_one (s_ret (c_up r_bl))) ss_nil) (ss_cons (s_if (t_not (t_val (c_op (r_call kx c_are_lines (hr.mono (by decide)) (ra_cons (r_var (pv 6)) ra_nil))))) (ss_one (s_ret (c_up r_bl))) ss_nil) (ss_cons (s_forT ks (r_var (pv 6)) (g_tup kx (gs_cons (g_name (i := 7) kx.nd rfl (by first | exact Or.inl rfl | exact Or.inr rfl)) (gs_cons (g_name (i := 8) kx.nd rfl (by first | exact Or.inl rfl | exact Or.inr rfl)) gs_nil))) (ss_cons (s_if (PW.pt (tw_or (t_ge (r_var (pv 7)) (r_var (pv 0))) (pw_or1 (t_eq kx (r_var (pv 7)) (r_var (pv 2)))))) (ss_one (s_ret (c_up r_bl))) ss_nil) (ss_wp [7, 8] ss_nil))) (ss_one (s_ret (c_up r_bl))))))))
abbrev s_taken : Stmt := topS 35
theorem sc_taken : FnScope ["kind", "by", "most", "reach"] ["kind", "by", "most", "reach"] (defScope s_taken) := ⟨rfl, rfl, rfl, by decide +kernel, rfl, by decide +kernel, by decide +kernel⟩
theorem ok_taken {f : Addr} {fd : FuncData} (F : Fun K "taken" "taken" s_taken f fd) (T : Tx K mg) : FnOk P w K mg base (L2.CX P w) 1 f fd ["kind", "by", "most", "reach"] (spF ⟨K, mg⟩ f_taken) :=
  rf_ok (k := 0) (m := m_taken) F sc_taken (by decide) fun cdv A outer s H E om0 H0 v0 W hr ks => by
    have kx := ks.toKx
    exact (ss_cons (s_if (t_eq kx (r_var (pv 0)) r_str) (ss_one (s_ret (c_up (r_min2 kx T.b_min (ra_cons (r_var (pv 2)) (ra_cons (r_div (r_mul (r_var (pv 3)) (r_var (pv 1))) r_int) ra_nil)))))) ss_nil) (ss_one (s_ret (c_up (r_min2 kx T.b_min (ra_cons (r_var (pv 2)) (ra_cons (r_max2 kx T.b_max (ra_cons r_int (ra_cons (r_sub (r_var (pv 3)) (r_var (pv 1))) ra_nil))) ra_nil)))))))
abbrev s_look_houses : Stmt := topS 39
theorem sc_look_houses : FnScope ["houses"] ["houses"] (defScope s_look_houses) := ⟨rfl, rfl, rfl, by decide +kernel, rfl, by decide +kernel, by decide +kernel⟩
theorem ok_look_houses {f : Addr} {fd : FuncData} (F : Fun K "look_houses" "look_houses" s_look_houses f fd) (T : Tx K mg) : FnOk P w K mg base (L2.CX P w) 1 f fd ["houses"] (spF ⟨K, mg⟩ f_look_houses) :=
  rf_ok (k := 0) (m := m_look_houses) F sc_look_houses (by decide) fun cdv A outer s H E om0 H0 v0 W hr ks => by
    have kx := ks.toKx
    exact (ss_cons (s_if (PW.pt (tw_or (t_lt (r_var (pv 0)) r_int) (pw_or1 (t_gt (r_var (pv 0)) (r_globI rfl T.c_MOST_HOUSES))))) (ss_one (s_raise ks T.x_BadHouses)) ss_nil) ss_nil)
abbrev s_Table___init__ : Stmt := inClass (topS 40) 0
theorem sc_Table___init__ : FnScope ["self", "houses", "covers", "losses", "cover", "crowns"] ["self", "houses", "covers", "losses"] (defScope s_Table___init__) := ⟨rfl, rfl, rfl, by decide +kernel, rfl, by decide +kernel, by decide +kernel⟩
theorem ok_Table___init__ {f : Addr} {fd : FuncData} (F : Fun K "__init__" "Table.__init__" s_Table___init__ f fd) (T : Tx K mg) (c_grown_parts : Cl P w ⟨K, mg⟩ base 2 "grown_parts" f_grown_parts) (c_is_cover : Cl P w ⟨K, mg⟩ base 2 "is_cover" f_is_cover) (c_look_houses : Cl P w ⟨K, mg⟩ base 1 "look_houses" f_look_houses) : FnOk P w K mg base (L2.CX P w) 3 f fd ["self", "houses", "covers", "losses"] (spF ⟨K, mg⟩ f_Table___init__) :=
  rf_ok (k := 2) (m := m_Table___init__) F sc_Table___init__ (by decide) fun cdv A outer s H E om0 H0 v0 W hr ks => by
    have kx := ks.toKx
    exact (ss_cons (s_exp (r_call kx c_look_houses (hr.mono (by decide)) (ra_cons (r_var (pv 1)) ra_nil))) (ss_cons (s_if (t_gt (r_len kx T.b_len (ra_cons (r_var (pv 2)) ra_nil)) (r_globI rfl T.c_MOST_COVERS)) (ss_one (s_raise ks T.x_BadCover)) ss_nil) (ss_cons (s_forL ks (r_var (pv 2)) (g_name (i := 4) kx.nd rfl (by first | exact Or.inl rfl | exact Or.inr rfl)) (ss_cons (s_if (t_not (t_val (c_op (r_call kx c_is_cover (hr.mono (by decide)) (ra_cons (r_var (pv 1)) (ra_cons (r_var (pv 4)) ra_nil)))))) (ss_one (s_raise ks T.x_BadCover)) ss_nil) (ss_wp [4] ss_nil))) (ss_cons (s_if (t_ne kx (r_len kx T.b_len (ra_cons (r_var (pv 3)) ra_nil)) (r_var (pv 1))) (ss_one (s_raise ks T.x_BadLosses)) ss_nil) (ss_cons (s_forL ks (r_var (pv 3)) (g_name (i := 5) kx.nd rfl (by first | exact Or.inl rfl | exact Or.inr rfl)) (ss_cons (s_if (PW.pt (tw_or (t_lt (r_var (pv 5)) r_int) (pw_or1 (t_gt (r_var (pv 5)) (r_globI rfl T.c_MOST_LOSS))))) (ss_one (s_raise ks T.x_BadLosses)) ss_nil) (ss_wp [5] ss_nil))) (ss_cons (s_att kx T.g_Table T.cls_Table T.na_Table_size (pv 0) (r_var (pv 1))) (ss_cons (s_att kx T.g_Table T.cls_Table T.na_Table_rows (pv 0) (c_op (r_listc kx T.b_list (ra_cons (r_var (pv 2)) ra_nil)))) (ss_cons (s_att kx T.g_Table T.cls_Table T.na_Table_befell (pv 0) (c_op (r_listc kx T.b_list (ra_cons (r_var (pv 3)) ra_nil)))) (ss_cons (s_att kx T.g_Table T.cls_Table T.na_Table_splits (pv 0) (c_op (r_lc kx lcL_imp (pi_list (r_var (pv 2))) (blkOk_by (own := [("cover", 4)]) (N := ["self", "houses", "covers", "losses", "cover", "crowns"]) (sc := defScope s_Table___init__) (by decide +kernel)) (fun _ _ _ _ _ => pg_name (i := 4) kx.nd rfl (Or.inl rfl)) (fun _ _ _ _ _ kx => ts_nil) (fun _ _ _ _ _ kx => (c_op (r_call kx c_grown_parts (hr.mono (by decide)) (ra_cons (r_ix kx (r_var (pv 4)) r_int) (ra_cons (r_ix kx (r_var (pv 4)) r_int) ra_nil)))))))) ss_nil)))))))))
abbrev s_Table_mosts : Stmt := inClass (topS 40) 4
theorem sc_Table_mosts : FnScope ["self", "cover"] ["self"] (defScope s_Table_mosts) := ⟨rfl, rfl, rfl, by decide +kernel, rfl, by decide +kernel, by decide +kernel⟩
theorem ok_Table_mosts {f : Addr} {fd : FuncData} (F : Fun K "mosts" "Table.mosts" s_Table_mosts f fd) (T : Tx K mg) : FnOk P w K mg base (L2.CX P w) 1 f fd ["self"] (spF ⟨K, mg⟩ f_Table_mosts) :=
  rf_ok (k := 0) (m := m_Table_mosts) F sc_Table_mosts (by decide) fun cdv A outer s H E om0 H0 v0 W hr ks => by
    have kx := ks.toKx
    exact (ss_one (s_ret (r_lc kx lcL_imp (pi_list (r_att kx T.g_Table T.cls_Table T.na_Table_rows (r_var (pv 0)))) (blkOk_by (own := [("cover", 1)]) (N := ["self", "cover"]) (sc := defScope s_Table_mosts) (by decide +kernel)) (fun _ _ _ _ _ => pg_name (i := 1) kx.nd rfl (Or.inl rfl)) (fun _ _ _ _ _ kx => ts_nil) (fun _ _ _ _ _ kx => (r_ix kx (r_var (pv 1)) r_int)))))
abbrev s_Table_loads : Stmt := inClass (topS 40) 6
theorem sc_Table_loads : FnScope ["self", "account", "found", "at", "borne", "lines", "place"] ["self", "account"] (defScope s_Table_loads) := ⟨rfl, rfl, rfl, by decide +kernel, rfl, by decide +kernel, by decide +kernel⟩
theorem ok_Table_loads {f : Addr} {fd : FuncData} (F : Fun K "loads" "Table.loads" s_Table_loads f fd) (T : Tx K mg) : FnOk P w K mg base (L2.CX P w) 1 f fd ["self", "account"] (spF ⟨K, mg⟩ f_Table_loads) :=
  rf_ok (k := 0) (m := m_Table_loads) F sc_Table_loads (by decide) fun cdv A outer s H E om0 H0 v0 W hr ks => by
    have kx := ks.toKx
    exact (ss_cons (s_own (i := 2) kx rfl (by first | exact Or.inl rfl | exact Or.inr rfl) (r_listc kx T.b_list (ra_cons (r_att kx T.g_Table T.cls_Table T.na_Table_befell (r_var (pv 0))) ra_nil))) (ss_cons (s_forR1 ks T.b_range (ra_cons (r_len kx T.b_len (ra_cons (r_att kx T.g_Table T.cls_Table T.na_Table_rows (r_var (pv 0))) ra_nil)) ra_nil) (g_name (i := 3) kx.nd rfl (by first | exact Or.inl rfl | exact Or.inr rfl)) (ss_cons (s_set (i := 4) kx rfl (by first | exact Or.inl rfl | exact Or.inr rfl) (r_ix kx (r_ix kx (r_att kx T.g_Table T.cls_Table T.na_Table_splits (r_var (pv 0))) (r_var (pv 3))) (r_ix kx (r_var (pv 1)) (r_var (pv 3))))) (ss_cons (s_set (i := 5) kx rfl (by first | exact Or.inl rfl | exact Or.inr rfl) (r_ix kx (r_ix kx (r_att kx T.g_Table T.cls_Table T.na_Table_rows (r_var (pv 0))) (r_var (pv 3))) r_int)) (ss_cons (s_forR1 ks T.b_range (ra_cons (r_len kx T.b_len (ra_cons (r_var (pv 5)) ra_nil)) ra_nil) (g_name (i := 6) kx.nd rfl (by first | exact Or.inl rfl | exact Or.inr rfl)) (ss_cons (s_augI ip_add (pv 2) (r_ix kx (r_ix kx (r_var (pv 5)) (r_var (pv 6))) r_int) (r_ix kx (r_var (pv 4)) (r_var (pv 6)))) (ss_wp [6] ss_nil))) (ss_wp [3, 4, 5] ss_nil))))) (ss_one (s_retO (pv 2)))))
abbrev s_Table_passed : Stmt := inClass (topS 40) 7
theorem sc_Table_passed : FnScope ["self", "account", "left", "asks", "house", "kind", "by", "most", "lines", "crowns"] ["self", "account"] (defScope s_Table_passed) := ⟨rfl, rfl, rfl, by decide +kernel, rfl, by decide +kernel, by decide +kernel⟩
theorem ok_Table_passed {f : Addr} {fd : FuncData} (F : Fun K "passed" "Table.passed" s_Table_passed f fd) (T : Tx K mg) (c_Table_loads : Clm P w ⟨K, mg⟩ base 1 "Table" "loads" f_Table_loads) (c_taken : Cl P w ⟨K, mg⟩ base 1 "taken" f_taken) : FnOk P w K mg base (L2.CX P w) 2 f fd ["self", "account"] (spF ⟨K, mg⟩ f_Table_passed) :=
  rf_ok (k := 1) (m := m_Table_passed) F sc_Table_passed (by decide) fun cdv A outer s H E om0 H0 v0 W hr ks => by
    have kx := ks.toKx
    exact (ss_cons (s_own (i := 2) kx rfl (by first | exact Or.inl rfl | exact Or.inr rfl) (r_meth kx c_Table_loads (hr.mono (by decide)) (r_var (pv 0)) (ra_cons (r_var (pv 1)) ra_nil))) (ss_cons (s_own (i := 3) kx rfl (by first | exact Or.inl rfl | exact Or.inr rfl) (r_lst ra_nil)) (ss_cons (s_forL ks (r_att kx T.g_Table T.cls_Table T.na_Table_rows (r_var (pv 0))) (g_tup kx (gs_cons (g_name (i := 4) kx.nd rfl (by first | exact Or.inl rfl | exact Or.inr rfl)) (gs_cons (g_name (i := 5) kx.nd rfl (by first | exact Or.inl rfl | exact Or.inr rfl)) (gs_cons (g_name (i := 6) kx.nd rfl (by first | exact Or.inl rfl | exact Or.inr rfl)) (gs_cons (g_name (i := 7) kx.nd rfl (by first | exact Or.inl rfl | exact Or.inr rfl)) (gs_cons (g_name (i := 8) kx.nd rfl (by first | exact Or.inl rfl | exact Or.inr rfl)) gs_nil)))))) (ss_cons (s_set (i := 9) kx rfl (by first | exact Or.inl rfl | exact Or.inr rfl) (c_op (r_call kx c_taken (hr.mono (by decide)) (ra_cons (r_var (pv 5)) (ra_cons (r_var (pv 6)) (ra_cons (r_var (pv 7)) (ra_cons (r_ix kx (r_var (pv 2)) (r_var (pv 4))) ra_nil))))))) (ss_cons (s_augI ip_sub (pv 2) (r_var (pv 4)) (r_var (pv 9))) (ss_cons (s_app (pv 3) (r_var (pv 9))) (ss_wp [4, 5, 6, 7, 8, 9] ss_nil))))) (ss_cold 2 (ss_cold 3 (ss_one (s_ret (c_up (r_tup (ra_cons (r_var (pv 3)) (ra_cons (r_var (pv 2)) ra_nil)))))))))))
abbrev s_look_account : Stmt := topS 42
theorem sc_look_account : FnScope ["table", "account", "mosts", "at"] ["table", "account"] (defScope s_look_account) := ⟨rfl, rfl, rfl, by decide +kernel, rfl, by decide +kernel, by decide +kernel⟩
theorem ok_look_account {f : Addr} {fd : FuncData} (F : Fun K "look_account" "look_account" s_look_account f fd) (T : Tx K mg) (c_Table_mosts : Clm P w ⟨K, mg⟩ base 1 "Table" "mosts" f_Table_mosts) : FnOk P w K mg base (L2.CX P w) 2 f fd ["table", "account"] (spF ⟨K, mg⟩ f_look_account) :=
  rf_ok (k := 1) (m := m_look_account) F sc_look_account (by decide) fun cdv A outer s H E om0 H0 v0 W hr ks => by
    have kx := ks.toKx
    exact (ss_cons (s_set (i := 2) kx rfl (by first | exact Or.inl rfl | exact Or.inr rfl) (c_op (r_meth0 kx c_Table_mosts (hr.mono (by decide)) (r_var (pv 0))))) (ss_cons (s_if (t_ne kx (r_len kx T.b_len (ra_cons (r_var (pv 1)) ra_nil)) (r_len kx T.b_len (ra_cons (r_var (pv 2)) ra_nil))) (ss_one (s_raise ks T.x_BadAccount)) ss_nil) (ss_cons (s_forR1 ks T.b_range (ra_cons (r_len kx T.b_len (ra_cons (r_var (pv 2)) ra_nil)) ra_nil) (g_name (i := 3) kx.nd rfl (by first | exact Or.inl rfl | exact Or.inr rfl)) (ss_cons (s_if (PW.pt (tw_or (t_lt (r_ix kx (r_var (pv 1)) (r_var (pv 3))) r_int) (pw_or1 (t_gt (r_ix kx (r_var (pv 1)) (r_var (pv 3))) (r_ix kx (r_var (pv 2)) (r_var (pv 3))))))) (ss_one (s_raise ks T.x_BadAccount)) ss_nil) (ss_wp [3] ss_nil))) (ss_wp [2] ss_nil))))
abbrev s_burdens : Stmt := topS 43
theorem sc_burdens : FnScope ["table", "account"] ["table", "account"] (defScope s_burdens) := ⟨rfl, rfl, rfl, by decide +kernel, rfl, by decide +kernel, by decide +kernel⟩
theorem ok_burdens {f : Addr} {fd : FuncData} (F : Fun K "burdens" "burdens" s_burdens f fd) (T : Tx K mg) (c_Table_loads : Clm P w ⟨K, mg⟩ base 1 "Table" "loads" f_Table_loads) (c_look_account : Cl P w ⟨K, mg⟩ base 2 "look_account" f_look_account) : FnOk P w K mg base (L2.CX P w) 3 f fd ["table", "account"] (spF ⟨K, mg⟩ f_burdens) :=
  rf_ok (k := 2) (m := m_burdens) F sc_burdens (by decide) fun cdv A outer s H E om0 H0 v0 W hr ks => by
    have kx := ks.toKx
    exact (ss_cons (s_exp (r_call kx c_look_account (hr.mono (by decide)) (ra_cons (r_var (pv 0)) (ra_cons (r_var (pv 1)) ra_nil)))) (ss_one (s_ret (r_meth kx c_Table_loads (hr.mono (by decide)) (r_var (pv 0)) (ra_cons (r_var (pv 1)) ra_nil)))))
abbrev s_asked : Stmt := topS 44
theorem sc_asked : FnScope ["table", "account"] ["table", "account"] (defScope s_asked) := ⟨rfl, rfl, rfl, by decide +kernel, rfl, by decide +kernel, by decide +kernel⟩
theorem ok_asked {f : Addr} {fd : FuncData} (F : Fun K "asked" "asked" s_asked f fd) (T : Tx K mg) (c_Table_passed : Clm P w ⟨K, mg⟩ base 2 "Table" "passed" f_Table_passed) (c_look_account : Cl P w ⟨K, mg⟩ base 2 "look_account" f_look_account) : FnOk P w K mg base (L2.CX P w) 3 f fd ["table", "account"] (spF ⟨K, mg⟩ f_asked) :=
  rf_ok (k := 2) (m := m_asked) F sc_asked (by decide) fun cdv A outer s H E om0 H0 v0 W hr ks => by
    have kx := ks.toKx
    exact (ss_cons (s_exp (r_call kx c_look_account (hr.mono (by decide)) (ra_cons (r_var (pv 0)) (ra_cons (r_var (pv 1)) ra_nil)))) (ss_one (s_ret (c_up (r_ix kx (c_op (r_meth kx c_Table_passed (hr.mono (by decide)) (r_var (pv 0)) (ra_cons (r_var (pv 1)) ra_nil))) r_int)))))
abbrev s_settled : Stmt := topS 46
theorem sc_settled : FnScope ["table", "account", "here", "asks"] ["table", "account"] (defScope s_settled) := ⟨rfl, rfl, rfl, by decide +kernel, rfl, by decide +kernel, by decide +kernel⟩
theorem ok_settled {f : Addr} {fd : FuncData} (F : Fun K "settled" "settled" s_settled f fd) (T : Tx K mg) (c_Table_passed : Clm P w ⟨K, mg⟩ base 2 "Table" "passed" f_Table_passed) : FnOk P w K mg base (L2.CX P w) 3 f fd ["table", "account"] (spF ⟨K, mg⟩ f_settled) :=
  rf_ok (k := 2) (m := m_settled) F sc_settled (by decide) fun cdv A outer s H E om0 H0 v0 W hr ks => by
    have kx := ks.toKx
    exact (ss_cons (s_set (i := 2) kx rfl (by first | exact Or.inl rfl | exact Or.inr rfl) (c_op (r_listc kx T.b_list (ra_cons (r_var (pv 1)) ra_nil)))) (ss_cons (s_set (i := 3) kx rfl (by first | exact Or.inl rfl | exact Or.inr rfl) (r_ix kx (c_op (r_meth kx c_Table_passed (hr.mono (by decide)) (r_var (pv 0)) (ra_cons (r_var (pv 2)) ra_nil))) r_int)) (ss_cons (s_while 1000 ks (t_ne kx (r_var (pv 3)) (r_var (pv 2))) (ss_cons (s_set (i := 2) kx rfl (by first | exact Or.inl rfl | exact Or.inr rfl) (r_var (pv 3))) (ss_cons (s_set (i := 3) kx rfl (by first | exact Or.inl rfl | exact Or.inr rfl) (r_ix kx (c_op (r_meth kx c_Table_passed (hr.mono (by decide)) (r_var (pv 0)) (ra_cons (r_var (pv 2)) ra_nil))) r_int)) ss_nil))) (ss_one (s_ret (c_up (r_var (pv 2))))))))
abbrev s_shows : Stmt := topS 47
theorem sc_shows : FnScope ["table", "steps", "account", "here", "cover", "bill"] ["table", "steps", "account"] (defScope s_shows) := ⟨rfl, rfl, rfl, by decide +kernel, rfl, by decide +kernel, by decide +kernel⟩
theorem ok_shows {f : Addr} {fd : FuncData} (F : Fun K "shows" "shows" s_shows f fd) (T : Tx K mg) (c_Table_mosts : Clm P w ⟨K, mg⟩ base 1 "Table" "mosts" f_Table_mosts) (c_Table_passed : Clm P w ⟨K, mg⟩ base 2 "Table" "passed" f_Table_passed) (c_look_account : Cl P w ⟨K, mg⟩ base 2 "look_account" f_look_account) : FnOk P w K mg base (L2.CX P w) 3 f fd ["table", "steps", "account"] (spF ⟨K, mg⟩ f_shows) :=
  rf_ok (k := 2) (m := m_shows) F sc_shows (by decide) fun cdv A outer s H E om0 H0 v0 W hr ks => by
    have kx := ks.toKx
    exact (ss_cons (s_exp (r_call kx c_look_account (hr.mono (by decide)) (ra_cons (r_var (pv 0)) (ra_cons (r_var (pv 2)) ra_nil)))) (ss_cons (s_own (i := 3) kx rfl (by first | exact Or.inl rfl | exact Or.inr rfl) (r_rep (c_op (r_lst (ra_cons r_int ra_nil))) (r_len kx T.b_len (ra_cons (c_op (r_meth0 kx c_Table_mosts (hr.mono (by decide)) (r_var (pv 0)))) ra_nil)))) (ss_cons (s_forL ks (r_var (pv 1)) (g_tup kx (gs_cons (g_name (i := 4) kx.nd rfl (by first | exact Or.inl rfl | exact Or.inr rfl)) (gs_cons (g_name (i := 5) kx.nd rfl (by first | exact Or.inl rfl | exact Or.inr rfl)) gs_nil))) (ss_cons (s_if (PW.pt (tw_or (t_lt (r_var (pv 4)) r_int) (tw_or (t_ge (r_var (pv 4)) (r_len kx T.b_len (ra_cons (r_var (pv 3)) ra_nil))) (pw_or1 (t_le (r_var (pv 5)) (r_ix kx (r_var (pv 3)) (r_var (pv 4)))))))) (ss_one (s_ret (c_up r_bl))) ss_nil) (ss_cons (s_if (t_gt (r_var (pv 5)) (r_ix kx (r_ix kx (c_op (r_meth kx c_Table_passed (hr.mono (by decide)) (r_var (pv 0)) (ra_cons (r_var (pv 3)) ra_nil))) r_int) (r_var (pv 4)))) (ss_one (s_ret (c_up r_bl))) ss_nil) (ss_cons (s_it (pv 3) (r_var (pv 4)) (r_var (pv 5))) (ss_wp [4, 5] ss_nil))))) (ss_one (s_ret (c_up (v_eq kx (r_var (pv 3)) (c_op (r_listc kx T.b_list (ra_cons (r_var (pv 2)) ra_nil))))))))))
abbrev s_agrees : Stmt := topS 49
theorem sc_agrees : FnScope ["table", "account"] ["table", "account"] (defScope s_agrees) := ⟨rfl, rfl, rfl, by decide +kernel, rfl, by decide +kernel, by decide +kernel⟩
theorem ok_agrees {f : Addr} {fd : FuncData} (F : Fun K "agrees" "agrees" s_agrees f fd) (T : Tx K mg) (c_asked : Cl P w ⟨K, mg⟩ base 3 "asked" f_asked) : FnOk P w K mg base (L2.CX P w) 4 f fd ["table", "account"] (spF ⟨K, mg⟩ f_agrees) :=
  rf_ok (k := 3) (m := m_agrees) F sc_agrees (by decide) fun cdv A outer s H E om0 H0 v0 W hr ks => by
    have kx := ks.toKx
    exact (ss_one (s_ret (c_up (v_eq kx (c_op (r_call kx c_asked (hr.mono (by decide)) (ra_cons (r_var (pv 0)) (ra_cons (r_var (pv 1)) ra_nil)))) (c_op (r_listc kx T.b_list (ra_cons (r_var (pv 1)) ra_nil)))))))
abbrev s_lies_below : Stmt := topS 50
theorem sc_lies_below : FnScope ["one", "other", "at"] ["one", "other"] (defScope s_lies_below) := ⟨rfl, rfl, rfl, by decide +kernel, rfl, by decide +kernel, by decide +kernel⟩
theorem ok_lies_below {f : Addr} {fd : FuncData} (F : Fun K "lies_below" "lies_below" s_lies_below f fd) (T : Tx K mg) : FnOk P w K mg base (L2.CX P w) 1 f fd ["one", "other"] (spF ⟨K, mg⟩ f_lies_below) :=
  rf_ok (k := 0) (m := m_lies_below) F sc_lies_below (by decide) fun cdv A outer s H E om0 H0 v0 W hr ks => by
    have kx := ks.toKx
    exact (ss_cons (s_forR1 ks T.b_range (ra_cons (r_len kx T.b_len (ra_cons (r_var (pv 0)) ra_nil)) ra_nil) (g_name (i := 2) kx.nd rfl (by first | exact Or.inl rfl | exact Or.inr rfl)) (ss_cons (s_if (t_gt (r_ix kx (r_var (pv 0)) (r_var (pv 2))) (r_ix kx (r_var (pv 1)) (r_var (pv 2)))) (ss_one (s_ret (c_up r_bl))) ss_nil) (ss_wp [2] ss_nil))) (ss_one (s_ret (c_up r_bl))))
abbrev s_backed : Stmt := topS 51
theorem sc_backed : FnScope ["table", "account"] ["table", "account"] (defScope s_backed) := ⟨rfl, rfl, rfl, by decide +kernel, rfl, by decide +kernel, by decide +kernel⟩
theorem ok_backed {f : Addr} {fd : FuncData} (F : Fun K "backed" "backed" s_backed f fd) (T : Tx K mg) (c_asked : Cl P w ⟨K, mg⟩ base 3 "asked" f_asked) (c_lies_below : Cl P w ⟨K, mg⟩ base 1 "lies_below" f_lies_below) : FnOk P w K mg base (L2.CX P w) 4 f fd ["table", "account"] (spF ⟨K, mg⟩ f_backed) :=
  rf_ok (k := 3) (m := m_backed) F sc_backed (by decide) fun cdv A outer s H E om0 H0 v0 W hr ks => by
    have kx := ks.toKx
    exact (ss_one (s_ret (r_call kx c_lies_below (hr.mono (by decide)) (ra_cons (r_var (pv 1)) (ra_cons (c_op (r_call kx c_asked (hr.mono (by decide)) (ra_cons (r_var (pv 0)) (ra_cons (r_var (pv 1)) ra_nil)))) ra_nil)))))
abbrev s_enough : Stmt := topS 52
theorem sc_enough : FnScope ["table", "account"] ["table", "account"] (defScope s_enough) := ⟨rfl, rfl, rfl, by decide +kernel, rfl, by decide +kernel, by decide +kernel⟩
theorem ok_enough {f : Addr} {fd : FuncData} (F : Fun K "enough" "enough" s_enough f fd) (T : Tx K mg) (c_asked : Cl P w ⟨K, mg⟩ base 3 "asked" f_asked) (c_lies_below : Cl P w ⟨K, mg⟩ base 1 "lies_below" f_lies_below) : FnOk P w K mg base (L2.CX P w) 4 f fd ["table", "account"] (spF ⟨K, mg⟩ f_enough) :=
  rf_ok (k := 3) (m := m_enough) F sc_enough (by decide) fun cdv A outer s H E om0 H0 v0 W hr ks => by
    have kx := ks.toKx
    exact (ss_one (s_ret (r_call kx c_lies_below (hr.mono (by decide)) (ra_cons (c_op (r_call kx c_asked (hr.mono (by decide)) (ra_cons (r_var (pv 0)) (ra_cons (r_var (pv 1)) ra_nil)))) (ra_cons (r_var (pv 1)) ra_nil)))))
abbrev s_above : Stmt := topS 53
theorem sc_above : FnScope ["table", "account"] ["table", "account"] (defScope s_above) := ⟨rfl, rfl, rfl, by decide +kernel, rfl, by decide +kernel, by decide +kernel⟩
theorem ok_above {f : Addr} {fd : FuncData} (F : Fun K "above" "above" s_above f fd) (T : Tx K mg) (c_backed : Cl P w ⟨K, mg⟩ base 4 "backed" f_backed) (c_settled : Cl P w ⟨K, mg⟩ base 3 "settled" f_settled) : FnOk P w K mg base (L2.CX P w) 5 f fd ["table", "account"] (spF ⟨K, mg⟩ f_above) :=
  rf_ok (k := 4) (m := m_above) F sc_above (by decide) fun cdv A outer s H E om0 H0 v0 W hr ks => by
    have kx := ks.toKx
    exact (ss_cons (s_if (t_not (t_val (c_op (r_call kx c_backed (hr.mono (by decide)) (ra_cons (r_var (pv 0)) (ra_cons (r_var (pv 1)) ra_nil)))))) (ss_one (s_raise ks T.x_Unbacked)) ss_nil) (ss_one (s_ret (r_call kx c_settled (hr.mono (by decide)) (ra_cons (r_var (pv 0)) (ra_cons (r_var (pv 1)) ra_nil))))))
abbrev s_below : Stmt := topS 54
theorem sc_below : FnScope ["table", "account"] ["table", "account"] (defScope s_below) := ⟨rfl, rfl, rfl, by decide +kernel, rfl, by decide +kernel, by decide +kernel⟩
theorem ok_below {f : Addr} {fd : FuncData} (F : Fun K "below" "below" s_below f fd) (T : Tx K mg) (c_enough : Cl P w ⟨K, mg⟩ base 4 "enough" f_enough) (c_settled : Cl P w ⟨K, mg⟩ base 3 "settled" f_settled) : FnOk P w K mg base (L2.CX P w) 5 f fd ["table", "account"] (spF ⟨K, mg⟩ f_below) :=
  rf_ok (k := 4) (m := m_below) F sc_below (by decide) fun cdv A outer s H E om0 H0 v0 W hr ks => by
    have kx := ks.toKx
    exact (ss_cons (s_if (t_not (t_val (c_op (r_call kx c_enough (hr.mono (by decide)) (ra_cons (r_var (pv 0)) (ra_cons (r_var (pv 1)) ra_nil)))))) (ss_one (s_raise ks T.x_Short)) ss_nil) (ss_one (s_ret (r_call kx c_settled (hr.mono (by decide)) (ra_cons (r_var (pv 0)) (ra_cons (r_var (pv 1)) ra_nil))))))
abbrev s_look_both : Stmt := topS 55
theorem sc_look_both : FnScope ["table", "one", "other", "both"] ["table", "one", "other"] (defScope s_look_both) := ⟨rfl, rfl, rfl, by decide +kernel, rfl, by decide +kernel, by decide +kernel⟩
theorem ok_look_both {f : Addr} {fd : FuncData} (F : Fun K "look_both" "look_both" s_look_both f fd) (T : Tx K mg) (c_agrees : Cl P w ⟨K, mg⟩ base 4 "agrees" f_agrees) : FnOk P w K mg base (L2.CX P w) 5 f fd ["table", "one", "other"] (spF ⟨K, mg⟩ f_look_both) :=
  rf_ok (k := 4) (m := m_look_both) F sc_look_both (by decide) fun cdv A outer s H E om0 H0 v0 W hr ks => by
    have kx := ks.toKx
    exact (ss_cons (s_set (i := 3) kx rfl (by first | exact Or.inl rfl | exact Or.inr rfl) (c_op (r_lst (ra_cons (c_op (r_call kx c_agrees (hr.mono (by decide)) (ra_cons (r_var (pv 0)) (ra_cons (r_var (pv 1)) ra_nil)))) (ra_cons (c_op (r_call kx c_agrees (hr.mono (by decide)) (ra_cons (r_var (pv 0)) (ra_cons (r_var (pv 2)) ra_nil)))) ra_nil))))) (ss_cons (s_if (t_in kx r_bl (r_var (pv 3))) (ss_one (s_raise ks T.x_Disagrees)) ss_nil) (ss_wp [3] ss_nil)))
abbrev s_joint : Stmt := topS 56
theorem sc_joint : FnScope ["table", "one", "other", "at"] ["table", "one", "other"] (defScope s_joint) := ⟨rfl, rfl, rfl, by decide +kernel, rfl, by decide +kernel, by decide +kernel⟩
theorem ok_joint {f : Addr} {fd : FuncData} (F : Fun K "joint" "joint" s_joint f fd) (T : Tx K mg) (c_look_both : Cl P w ⟨K, mg⟩ base 5 "look_both" f_look_both) (c_settled : Cl P w ⟨K, mg⟩ base 3 "settled" f_settled) : FnOk P w K mg base (L2.CX P w) 6 f fd ["table", "one", "other"] (spF ⟨K, mg⟩ f_joint) :=
  rf_ok (k := 5) (m := m_joint) F sc_joint (by decide) fun cdv A outer s H E om0 H0 v0 W hr ks => by
    have kx := ks.toKx
    exact (ss_cons (s_exp (r_call kx c_look_both (hr.mono (by decide)) (ra_cons (r_var (pv 0)) (ra_cons (r_var (pv 1)) (ra_cons (r_var (pv 2)) ra_nil))))) (ss_one (s_ret (r_call kx c_settled (hr.mono (by decide)) (ra_cons (r_var (pv 0)) (ra_cons (c_op (r_lc kx lcR1_imp (pi_range1 rfl T.b_range (ra_cons (r_len kx T.b_len (ra_cons (r_var (pv 1)) ra_nil)) ra_nil)) (blkOk_by (own := [("at", 3)]) (N := ["table", "one", "other", "at"]) (sc := defScope s_joint) (by decide +kernel)) (fun _ _ _ _ _ => pg_name (i := 3) kx.nd rfl (Or.inl rfl)) (fun _ _ _ _ _ kx => ts_nil) (fun _ _ _ _ _ kx => (r_max2 kx T.b_max (ra_cons (r_ix kx (r_var (pv 1)) (r_var (pv 3))) (ra_cons (r_ix kx (r_var (pv 2)) (r_var (pv 3))) ra_nil)))))) ra_nil))))))
abbrev s_meeting : Stmt := topS 57
theorem sc_meeting : FnScope ["table", "one", "other", "at"] ["table", "one", "other"] (defScope s_meeting) := ⟨rfl, rfl, rfl, by decide +kernel, rfl, by decide +kernel, by decide +kernel⟩
theorem ok_meeting {f : Addr} {fd : FuncData} (F : Fun K "meeting" "meeting" s_meeting f fd) (T : Tx K mg) (c_look_both : Cl P w ⟨K, mg⟩ base 5 "look_both" f_look_both) (c_settled : Cl P w ⟨K, mg⟩ base 3 "settled" f_settled) : FnOk P w K mg base (L2.CX P w) 6 f fd ["table", "one", "other"] (spF ⟨K, mg⟩ f_meeting) :=
  rf_ok (k := 5) (m := m_meeting) F sc_meeting (by decide) fun cdv A outer s H E om0 H0 v0 W hr ks => by
    have kx := ks.toKx
    exact (ss_cons (s_exp (r_call kx c_look_both (hr.mono (by decide)) (ra_cons (r_var (pv 0)) (ra_cons (r_var (pv 1)) (ra_cons (r_var (pv 2)) ra_nil))))) (ss_one (s_ret (r_call kx c_settled (hr.mono (by decide)) (ra_cons (r_var (pv 0)) (ra_cons (c_op (r_lc kx lcR1_imp (pi_range1 rfl T.b_range (ra_cons (r_len kx T.b_len (ra_cons (r_var (pv 1)) ra_nil)) ra_nil)) (blkOk_by (own := [("at", 3)]) (N := ["table", "one", "other", "at"]) (sc := defScope s_meeting) (by decide +kernel)) (fun _ _ _ _ _ => pg_name (i := 3) kx.nd rfl (Or.inl rfl)) (fun _ _ _ _ _ kx => ts_nil) (fun _ _ _ _ _ kx => (r_min2 kx T.b_min (ra_cons (r_ix kx (r_var (pv 1)) (r_var (pv 3))) (ra_cons (r_ix kx (r_var (pv 2)) (r_var (pv 3))) ra_nil)))))) ra_nil))))))
abbrev s_kept : Stmt := topS 59
theorem sc_kept : FnScope ["table", "account"] ["table", "account"] (defScope s_kept) := ⟨rfl, rfl, rfl, by decide +kernel, rfl, by decide +kernel, by decide +kernel⟩
theorem ok_kept {f : Addr} {fd : FuncData} (F : Fun K "kept" "kept" s_kept f fd) (T : Tx K mg) (c_Table_passed : Clm P w ⟨K, mg⟩ base 2 "Table" "passed" f_Table_passed) (c_agrees : Cl P w ⟨K, mg⟩ base 4 "agrees" f_agrees) : FnOk P w K mg base (L2.CX P w) 5 f fd ["table", "account"] (spF ⟨K, mg⟩ f_kept) :=
  rf_ok (k := 4) (m := m_kept) F sc_kept (by decide) fun cdv A outer s H E om0 H0 v0 W hr ks => by
    have kx := ks.toKx
    exact (ss_cons (s_if (t_not (t_val (c_op (r_call kx c_agrees (hr.mono (by decide)) (ra_cons (r_var (pv 0)) (ra_cons (r_var (pv 1)) ra_nil)))))) (ss_one (s_raise ks T.x_Disagrees)) ss_nil) (ss_one (s_ret (c_up (r_ix kx (c_op (r_meth kx c_Table_passed (hr.mono (by decide)) (r_var (pv 0)) (ra_cons (r_var (pv 1)) ra_nil))) r_int)))))
abbrev s_law_draws : Stmt := topS 61
theorem sc_law_draws : FnScope ["_law_script", "_law_many", "_law_row", "_law_seed", "_law_cell", "_law_rest", "_law_k"] ["_law_script", "_law_many"] (defScope s_law_draws) := ⟨rfl, rfl, rfl, by decide +kernel, rfl, by decide +kernel, by decide +kernel⟩
theorem ok_law_draws {f : Addr} {fd : FuncData} (F : Fun K "_law_draws" "_law_draws" s_law_draws f fd) (T : Tx K mg) : FnOk P w K mg base (L2.CX P w) 1 f fd ["_law_script", "_law_many"] (spF ⟨K, mg⟩ f_law_draws) :=
  rf_ok (k := 0) (m := m_law_draws) F sc_law_draws (by decide) fun cdv A outer s H E om0 H0 v0 W hr ks => by
    have kx := ks.toKx
    exact (ss_cons (s_own (i := 2) kx rfl (by first | exact Or.inl rfl | exact Or.inr rfl) (r_lst ra_nil)) (ss_cons (s_set (i := 3) kx rfl (by first | exact Or.inl rfl | exact Or.inr rfl) r_int) (ss_cons (s_forL ks (c_op (r_slL kx (r_var (pv 0)) ro_none (ro_some r_int))) (g_name (i := 4) kx.nd rfl (by first | exact Or.inl rfl | exact Or.inr rfl)) (ss_cons (s_set (i := 3) kx rfl (by first | exact Or.inl rfl | exact Or.inr rfl) (r_mod (r_add (r_add (r_mul (r_var (pv 3)) r_int) (r_mod (r_var (pv 4)) r_int)) r_int) r_int)) (ss_cons (s_set (i := 5) kx rfl (by first | exact Or.inl rfl | exact Or.inr rfl) (r_sub (r_var (pv 4)) (r_pow r_int r_int))) (ss_cons (s_if (t_lt (r_var (pv 5)) r_int) (ss_cons (s_app (pv 2) (r_mod (r_var (pv 4)) r_int)) ss_nil) ss_nil) (ss_cons (s_forR1 ks T.b_range (ra_cons r_int ra_nil) (g_name (i := 6) kx.nd rfl (by first | exact Or.inl rfl | exact Or.inr rfl)) (ss_cons (s_if (t_gt (r_var (pv 5)) r_int) (ss_cons (s_app (pv 2) (r_mod (r_var (pv 5)) r_int)) (ss_cons (s_set (i := 5) kx rfl (by first | exact Or.inl rfl | exact Or.inr rfl) (r_div (r_var (pv 5)) r_int)) ss_nil)) ss_nil) (ss_wp [6] ss_nil))) (ss_wp [4, 5] ss_nil)))))) (ss_cons (s_forR1 ks T.b_range (ra_cons (r_var (pv 1)) ra_nil) (g_name (i := 6) kx.nd rfl (by first | exact Or.inl rfl | exact Or.inr rfl)) (ss_cons (s_set (i := 3) kx rfl (by first | exact Or.inl rfl | exact Or.inr rfl) (r_mod (r_add (r_add (r_add (r_mul (r_var (pv 3)) (r_var (pv 3))) (r_mul r_int (r_var (pv 3)))) (r_mul r_int (r_var (pv 6)))) r_int) r_int)) (ss_cons (s_app (pv 2) (r_mod (r_div (r_var (pv 3)) r_int) r_int)) (ss_wp [6] ss_nil)))) (ss_one (s_ret (r_slL kx (r_var (pv 2)) ro_none (ro_some (r_var (pv 1))))))))))
abbrev s_law_due : Stmt := topS 62
theorem sc_law_due : FnScope ["_law_want", "_law_names", "_law_name"] ["_law_want"] (defScope s_law_due) := ⟨rfl, rfl, rfl, by decide +kernel, rfl, by decide +kernel, by decide +kernel⟩
theorem ok_law_due {f : Addr} {fd : FuncData} (F : Fun K "_law_due" "_law_due" s_law_due f fd) (T : Tx K mg) : FnOk P w K mg base (L2.CX P w) 1 f fd ["_law_want"] (spF ⟨K, mg⟩ f_law_due) :=
  rf_ok (k := 0) (m := m_law_due) F sc_law_due (by decide) fun cdv A outer s H E om0 H0 v0 W hr ks => by
    have kx := ks.toKx
    exact (ss_cons (s_set (i := 1) kx rfl (by first | exact Or.inl rfl | exact Or.inr rfl) (c_op (r_lst (ra_cons r_str (ra_cons r_str (ra_cons r_str (ra_cons r_str (ra_cons r_str (ra_cons r_str (ra_cons r_str (ra_cons r_str ra_nil))))))))))) (ss_cons (s_set (i := 1) kx rfl (by first | exact Or.inl rfl | exact Or.inr rfl) (c_op (r_cat (r_var (pv 1)) (c_op (r_lst (ra_cons r_str (ra_cons r_str (ra_cons r_str (ra_cons r_str (ra_cons r_str (ra_cons r_str (ra_cons r_str (ra_cons r_str ra_nil))))))))))))) (ss_cons (s_set (i := 1) kx rfl (by first | exact Or.inl rfl | exact Or.inr rfl) (c_op (r_cat (r_var (pv 1)) (c_op (r_lst (ra_cons r_str (ra_cons r_str (ra_cons r_str (ra_cons r_str (ra_cons r_str ra_nil)))))))))) (ss_one (s_ret (r_cat (c_op (r_lst (ra_cons r_bl ra_nil))) (c_op (r_lc kx lcL_imp (pi_list (r_var (pv 1))) (blkOk_by (own := [("_law_name", 2)]) (N := ["_law_want", "_law_names", "_law_name"]) (sc := defScope s_law_due) (by decide +kernel)) (fun _ _ _ _ _ => pg_name (i := 2) kx.nd rfl (Or.inl rfl)) (fun _ _ _ _ _ kx => ts_nil) (fun _ _ _ _ _ kx => (v_eq kx (r_var (pv 2)) (r_var (pv 0))))))))))))
abbrev s_law_seen : Stmt := topS 63
theorem sc_law_seen : FnScope ["_law_e", "_law_one"] ["_law_e"] (defScope s_law_seen) := ⟨rfl, rfl, rfl, by decide +kernel, rfl, by decide +kernel, by decide +kernel⟩
theorem ok_law_seen {f : Addr} {fd : FuncData} (F : Fun K "_law_seen" "_law_seen" s_law_seen f fd) (T : Tx K mg) (SFs : ∀ C c ds, mg c = some (.ref C) → seen_ c = some ds → SeenF T C c) (hm : ∀ a c ds, seen_ c = some ds → ∃ e, m_law_seen a c (.pin (.ref a) :: List.replicate 1 .un) = .rt (.tmp (.lst ds)) e) : FnE P w K mg base 1 f fd ["_law_e"] (spSeen ⟨K, mg⟩ seen_) :=
  rf_seen (k := 0) (m := m_law_seen) F sc_law_seen rfl (by decide) hm fun cdv A outer s H E om0 H0 v0 W o C c ds hgc hsc hz hf ks => by
    have SF := SFs C c ds hgc hsc
    have kx := ks.toKx
    exact (ss_cons (s_set (i := 1) kx rfl (by first | exact Or.inl rfl | exact Or.inr rfl) (c_op (r_lst (ra_cons (r_isP (call_isP SF.ex List.mem_cons_self hz hf) (pv 0) (pe_bltn (v := .ty "ValueError") rfl T.b_ValueError (by decide +kernel) rfl) (fun u h => h) SF.k_ValueError T.b_isinstance) (ra_cons (r_isP (call_isP SF.ex List.mem_cons_self hz hf) (pv 0) (pe_glob (v := .ref T.C_BadHouses) rfl T.g_BadHouses rfl) (fun u h => h) SF.k_BadHouses T.b_isinstance) (ra_cons (r_isP (call_isP SF.ex List.mem_cons_self hz hf) (pv 0) (pe_glob (v := .ref T.C_BadLines) rfl T.g_BadLines rfl) (fun u h => h) SF.k_BadLines T.b_isinstance) (ra_cons (r_isP (call_isP SF.ex List.mem_cons_self hz hf) (pv 0) (pe_glob (v := .ref T.C_BadCover) rfl T.g_BadCover rfl) (fun u h => h) SF.k_BadCover T.b_isinstance) ra_nil))))))) (ss_cons (s_set (i := 1) kx rfl (by first | exact Or.inl rfl | exact Or.inr rfl) (c_op (r_cat (r_var (pv 1)) (c_op (r_lst (ra_cons (r_isP (call_isP SF.ex List.mem_cons_self hz hf) (pv 0) (pe_glob (v := .ref T.C_BadCrowns) rfl T.g_BadCrowns rfl) (fun u h => h) SF.k_BadCrowns T.b_isinstance) (ra_cons (r_isP (call_isP SF.ex List.mem_cons_self hz hf) (pv 0) (pe_glob (v := .ref T.C_BadLosses) rfl T.g_BadLosses rfl) (fun u h => h) SF.k_BadLosses T.b_isinstance) (ra_cons (r_isP (call_isP SF.ex List.mem_cons_self hz hf) (pv 0) (pe_glob (v := .ref T.C_BadAccount) rfl T.g_BadAccount rfl) (fun u h => h) SF.k_BadAccount T.b_isinstance) ra_nil)))))))) (ss_cons (s_set (i := 1) kx rfl (by first | exact Or.inl rfl | exact Or.inr rfl) (c_op (r_cat (r_var (pv 1)) (c_op (r_lst (ra_cons (r_isP (call_isP SF.ex List.mem_cons_self hz hf) (pv 0) (pe_glob (v := .ref T.C_Unbacked) rfl T.g_Unbacked rfl) (fun u h => h) SF.k_Unbacked T.b_isinstance) (ra_cons (r_isP (call_isP SF.ex List.mem_cons_self hz hf) (pv 0) (pe_glob (v := .ref T.C_Short) rfl T.g_Short rfl) (fun u h => h) SF.k_Short T.b_isinstance) (ra_cons (r_isP (call_isP SF.ex List.mem_cons_self hz hf) (pv 0) (pe_glob (v := .ref T.C_Disagrees) rfl T.g_Disagrees rfl) (fun u h => h) SF.k_Disagrees T.b_isinstance) (ra_cons (r_isP (call_isP SF.ex List.mem_cons_self hz hf) (pv 0) (pe_glob (v := .ref T.C_NoHouse) rfl T.g_NoHouse rfl) (fun u h => h) SF.k_NoHouse T.b_isinstance) ra_nil))))))))) (ss_cons (s_set (i := 1) kx rfl (by first | exact Or.inl rfl | exact Or.inr rfl) (c_op (r_cat (r_var (pv 1)) (c_op (r_lst (ra_cons (r_isP (call_isP SF.ex List.mem_cons_self hz hf) (pv 0) (pe_glob (v := .ref T.C_NoCover) rfl T.g_NoCover rfl) (fun u h => h) SF.k_NoCover T.b_isinstance) (ra_cons (r_isP (call_isP SF.ex List.mem_cons_self hz hf) (pv 0) (pe_glob (v := .ref T.C_NoHappening) rfl T.g_NoHappening rfl) (fun u h => h) SF.k_NoHappening T.b_isinstance) (ra_cons (r_isP (call_isP SF.ex List.mem_cons_self hz hf) (pv 0) (pe_glob (v := .ref T.C_NoLoss) rfl T.g_NoLoss rfl) (fun u h => h) SF.k_NoLoss T.b_isinstance) (ra_cons (r_isP (call_isP SF.ex List.mem_cons_self hz hf) (pv 0) (pe_glob (v := .ref T.C_BadDay) rfl T.g_BadDay rfl) (fun u h => h) SF.k_BadDay T.b_isinstance) ra_nil))))))))) (ss_cons (s_set (i := 1) kx rfl (by first | exact Or.inl rfl | exact Or.inr rfl) (c_op (r_cat (r_var (pv 1)) (c_op (r_lst (ra_cons (r_isP (call_isP SF.ex List.mem_cons_self hz hf) (pv 0) (pe_glob (v := .ref T.C_BadTerms) rfl T.g_BadTerms rfl) (fun u h => h) SF.k_BadTerms T.b_isinstance) (ra_cons (r_isP (call_isP SF.ex List.mem_cons_self hz hf) (pv 0) (pe_glob (v := .ref T.C_Endless) rfl T.g_Endless rfl) (fun u h => h) SF.k_Endless T.b_isinstance) (ra_cons (r_isP (call_isP SF.ex List.mem_cons_self hz hf) (pv 0) (pe_glob (v := .ref T.C_Same) rfl T.g_Same rfl) (fun u h => h) SF.k_Same T.b_isinstance) (ra_cons (r_isP (call_isP SF.ex List.mem_cons_self hz hf) (pv 0) (pe_glob (v := .ref T.C_Full) rfl T.g_Full rfl) (fun u h => h) SF.k_Full T.b_isinstance) ra_nil))))))))) (ss_one (s_ret (r_cat (r_var (pv 1)) (c_op (r_lst (ra_cons (r_isP (call_isP SF.ex List.mem_cons_self hz hf) (pv 0) (pe_glob (v := .ref T.C_BadDeed) rfl T.g_BadDeed rfl) (fun u h => h) SF.k_BadDeed T.b_isinstance) (ra_cons (r_isP (call_isP SF.ex List.mem_cons_self hz hf) (pv 0) (pe_glob (v := .ref T.C_Nothing) rfl T.g_Nothing rfl) (fun u h => h) SF.k_Nothing T.b_isinstance) (ra_cons (r_isP (call_isP SF.ex List.mem_cons_self hz hf) (pv 0) (pe_glob (v := .ref T.C_BadText) rfl T.g_BadText rfl) (fun u h => h) SF.k_BadText T.b_isinstance) ra_nil)))))))))))))
abbrev s_law_lines : Stmt := topS 64
theorem sc_law_lines : FnScope ["_law_houses", "_law_house", "_law_draws_here", "_law_others", "_law_k", "_law_many", "_law_row", "_law_signer", "_law_line"] ["_law_houses", "_law_house", "_law_draws_here"] (defScope s_law_lines) := ⟨rfl, rfl, rfl, by decide +kernel, rfl, by decide +kernel, by decide +kernel⟩
theorem ok_law_lines {f : Addr} {fd : FuncData} (F : Fun K "_law_lines" "_law_lines" s_law_lines f fd) (T : Tx K mg) : FnOk P w K mg base (L2.CX P w) 1 f fd ["_law_houses", "_law_house", "_law_draws_here"] (spF ⟨K, mg⟩ f_law_lines) :=
  rf_ok (k := 0) (m := m_law_lines) F sc_law_lines (by decide) fun cdv A outer s H E om0 H0 v0 W hr ks => by
    have kx := ks.toKx
    exact (ss_cons (s_lcO (i := 3) kx rfl rfl lcR1_imp (pi_range1 rfl T.b_range (ra_cons (r_var (pv 0)) ra_nil)) (blkOk_by (own := [("_law_k", 4)]) (N := ["_law_houses", "_law_house", "_law_draws_here", "_law_others", "_law_k", "_law_many", "_law_row", "_law_signer", "_law_line"]) (sc := defScope s_law_lines) (by decide +kernel)) (fun _ _ _ _ _ => pg_name (i := 4) kx.nd rfl (Or.inl rfl)) (fun _ _ _ _ _ kx => (pts_one (t_ne kx (r_var (pv 4)) (r_var (pv 1))))) (fun _ _ _ _ _ kx => (r_var (pv 4))) (sw_true rfl rfl rfl (by decide +kernel))) (ss_cons (s_set (i := 5) kx rfl (by first | exact Or.inl rfl | exact Or.inr rfl) (r_add r_int (r_mod (r_ix kx (r_var (pv 2)) r_int) (r_min2 kx T.b_min (ra_cons r_int (ra_cons (r_len kx T.b_len (ra_cons (r_var (pv 3)) ra_nil)) ra_nil)))))) (ss_cons (s_own (i := 6) kx rfl (by first | exact Or.inl rfl | exact Or.inr rfl) (r_lst ra_nil)) (ss_cons (s_forR1 ks T.b_range (ra_cons (r_var (pv 5)) ra_nil) (g_name (i := 4) kx.nd rfl (by first | exact Or.inl rfl | exact Or.inr rfl)) (ss_cons (s_popAt (j := 7) kx rfl (by first | exact Or.inl rfl | exact Or.inr rfl) (pv 3) (r_mod (r_ix kx (r_var (pv 2)) (r_add r_int (r_var (pv 4)))) (r_len kx T.b_len (ra_cons (r_var (pv 3)) ra_nil)))) (ss_cons (s_set (i := 8) kx rfl (by first | exact Or.inl rfl | exact Or.inr rfl) (r_add r_int (r_mod (r_div (r_ix kx (r_var (pv 2)) (r_add r_int (r_var (pv 4)))) r_int) r_int))) (ss_cons (s_if (t_eq kx (r_mod (r_div (r_ix kx (r_var (pv 2)) r_int) r_int) r_int) r_int) (ss_cons (s_set (i := 8) kx rfl (by first | exact Or.inl rfl | exact Or.inr rfl) (r_add r_int (r_mod (r_div (r_ix kx (r_var (pv 2)) (r_add r_int (r_var (pv 4)))) r_int) r_int))) ss_nil) ss_nil) (ss_cons (s_app (pv 6) (r_tup (ra_cons (r_var (pv 7)) (ra_cons (r_var (pv 8)) ra_nil)))) (ss_wp [4, 7, 8] ss_nil)))))) (ss_one (s_ret (c_up (r_tupc kx T.b_tuple (ra_cons (r_var (pv 6)) ra_nil)))))))))
abbrev s_law_cover : Stmt := topS 65
theorem sc_law_cover : FnScope ["_law_houses", "_law_draws_here", "_law_house", "_law_kind", "_law_by", "_law_most"] ["_law_houses", "_law_draws_here"] (defScope s_law_cover) := ⟨rfl, rfl, rfl, by decide +kernel, rfl, by decide +kernel, by decide +kernel⟩
theorem ok_law_cover {f : Addr} {fd : FuncData} (F : Fun K "_law_cover" "_law_cover" s_law_cover f fd) (T : Tx K mg) (c_law_lines : Cl P w ⟨K, mg⟩ base 1 "_law_lines" f_law_lines) : FnOk P w K mg base (L2.CX P w) 2 f fd ["_law_houses", "_law_draws_here"] (spF ⟨K, mg⟩ f_law_cover) :=
  rf_ok (k := 1) (m := m_law_cover) F sc_law_cover (by decide) fun cdv A outer s H E om0 H0 v0 W hr ks => by
    have kx := ks.toKx
    exact (ss_cons (s_set (i := 2) kx rfl (by first | exact Or.inl rfl | exact Or.inr rfl) (r_mod (r_ix kx (r_var (pv 1)) r_int) (r_var (pv 0)))) (ss_cons (s_set (i := 3) kx rfl (by first | exact Or.inl rfl | exact Or.inr rfl) (r_ix kx (c_op (r_lst (ra_cons r_str (ra_cons r_str ra_nil)))) (r_mod (r_ix kx (r_var (pv 1)) r_int) r_int))) (ss_cons (s_set (i := 4) kx rfl (by first | exact Or.inl rfl | exact Or.inr rfl) (r_mod (r_ix kx (r_var (pv 1)) r_int) r_int)) (ss_cons (s_if (t_eq kx (r_mod (r_div (r_ix kx (r_var (pv 1)) r_int) r_int) r_int) r_int) (ss_cons (s_set (i := 4) kx rfl (by first | exact Or.inl rfl | exact Or.inr rfl) (r_mod (r_ix kx (r_var (pv 1)) r_int) r_int)) ss_nil) ss_nil) (ss_cons (s_if (t_eq kx (r_var (pv 3)) r_str) (ss_cons (s_set (i := 4) kx rfl (by first | exact Or.inl rfl | exact Or.inr rfl) (r_ix kx (c_op (r_lst (ra_cons (r_add r_int (r_mod (r_ix kx (r_var (pv 1)) r_int) r_int)) (ra_cons r_int (ra_cons (r_add r_int (r_mod (r_ix kx (r_var (pv 1)) r_int) r_int)) ra_nil))))) (r_mod (r_div (r_ix kx (r_var (pv 1)) r_int) r_int) r_int))) ss_nil) ss_nil) (ss_cons (s_set (i := 5) kx rfl (by first | exact Or.inl rfl | exact Or.inr rfl) (r_mod (r_ix kx (r_var (pv 1)) r_int) r_int)) (ss_one (s_ret (c_up (r_tup (ra_cons (r_var (pv 2)) (ra_cons (r_var (pv 3)) (ra_cons (r_var (pv 4)) (ra_cons (r_var (pv 5)) (ra_cons (c_op (r_call kx c_law_lines (hr.mono (by decide)) (ra_cons (r_var (pv 0)) (ra_cons (r_var (pv 2)) (ra_cons (c_op (r_slL kx (r_var (pv 1)) (ro_some r_int) (ro_some r_int))) ra_nil))))) ra_nil)))))))))))))))
abbrev s_law_rows : Stmt := topS 66
theorem sc_law_rows : FnScope ["_law_houses", "_law_draws_here", "_law_many", "_law_rows_here", "_law_k"] ["_law_houses", "_law_draws_here"] (defScope s_law_rows) := ⟨rfl, rfl, rfl, by decide +kernel, rfl, by decide +kernel, by decide +kernel⟩
theorem ok_law_rows {f : Addr} {fd : FuncData} (F : Fun K "_law_rows" "_law_rows" s_law_rows f fd) (T : Tx K mg) (c_law_cover : Cl P w ⟨K, mg⟩ base 2 "_law_cover" f_law_cover) : FnOk P w K mg base (L2.CX P w) 3 f fd ["_law_houses", "_law_draws_here"] (spF ⟨K, mg⟩ f_law_rows) :=
  rf_ok (k := 2) (m := m_law_rows) F sc_law_rows (by decide) fun cdv A outer s H E om0 H0 v0 W hr ks => by
    have kx := ks.toKx
    exact (ss_cons (s_if (t_eq kx (r_var (pv 0)) r_int) (ss_one (s_ret (r_lst ra_nil))) ss_nil) (ss_cons (s_set (i := 2) kx rfl (by first | exact Or.inl rfl | exact Or.inr rfl) (r_mod (r_ix kx (r_var (pv 1)) r_int) r_int)) (ss_cons (s_set (i := 3) kx rfl (by first | exact Or.inl rfl | exact Or.inr rfl) (c_op (r_lc kx lcR1_imp (pi_range1 rfl T.b_range (ra_cons (r_var (pv 2)) ra_nil)) (blkOk_by (own := [("_law_k", 4)]) (N := ["_law_houses", "_law_draws_here", "_law_many", "_law_rows_here", "_law_k"]) (sc := defScope s_law_rows) (by decide +kernel)) (fun _ _ _ _ _ => pg_name (i := 4) kx.nd rfl (Or.inl rfl)) (fun _ _ _ _ _ kx => ts_nil) (fun _ _ _ _ _ kx => (c_op (r_call kx c_law_cover (hr.mono (by decide)) (ra_cons (r_var (pv 0)) (ra_cons (c_op (r_slL kx (r_var (pv 1)) (ro_some (r_add r_int (r_mul r_int (r_var (pv 4))))) (ro_some (r_add r_int (r_mul r_int (r_var (pv 4))))))) ra_nil)))))))) (ss_cons (s_if (t_eq kx (r_mod (r_div (r_ix kx (r_var (pv 1)) r_int) r_int) r_int) r_int) (ss_cons (s_set (i := 3) kx rfl (by first | exact Or.inl rfl | exact Or.inr rfl) (c_op (r_lc kx lcR1_imp (pi_range1 rfl T.b_range (ra_cons (r_var (pv 2)) ra_nil)) (blkOk_by (own := [("_law_k", 4)]) (N := ["_law_houses", "_law_draws_here", "_law_many", "_law_rows_here", "_law_k"]) (sc := defScope s_law_rows) (by decide +kernel)) (fun _ _ _ _ _ => pg_name (i := 4) kx.nd rfl (Or.inl rfl)) (fun _ _ _ _ _ kx => ts_nil) (fun _ _ _ _ _ kx => (r_ix kx (r_var (pv 3)) (r_div (r_var (pv 4)) r_int)))))) ss_nil) ss_nil) (ss_one (s_ret (c_up (r_var (pv 3)))))))))
abbrev s_law_losses : Stmt := topS 67
theorem sc_law_losses : FnScope ["_law_houses", "_law_draws_here", "_law_row", "_law_k", "_law_d"] ["_law_houses", "_law_draws_here"] (defScope s_law_losses) := ⟨rfl, rfl, rfl, by decide +kernel, rfl, by decide +kernel, by decide +kernel⟩
theorem ok_law_losses {f : Addr} {fd : FuncData} (F : Fun K "_law_losses" "_law_losses" s_law_losses f fd) (T : Tx K mg) : FnOk P w K mg base (L2.CX P w) 1 f fd ["_law_houses", "_law_draws_here"] (spF ⟨K, mg⟩ f_law_losses) :=
  rf_ok (k := 0) (m := m_law_losses) F sc_law_losses (by decide) fun cdv A outer s H E om0 H0 v0 W hr ks => by
    have kx := ks.toKx
    exact (ss_cons (s_own (i := 2) kx rfl (by first | exact Or.inl rfl | exact Or.inr rfl) (r_lst ra_nil)) (ss_cons (s_forR1 ks T.b_range (ra_cons (r_var (pv 0)) ra_nil) (g_name (i := 3) kx.nd rfl (by first | exact Or.inl rfl | exact Or.inr rfl)) (ss_cons (s_set (i := 4) kx rfl (by first | exact Or.inl rfl | exact Or.inr rfl) (r_ix kx (r_var (pv 1)) (r_add r_int (r_var (pv 3))))) (ss_cons (s_app (pv 2) (r_ix kx (c_op (r_lst (ra_cons r_int (ra_cons (r_mod (r_var (pv 4)) r_int) (ra_cons (r_mod (r_var (pv 4)) r_int) (ra_cons (r_mod (r_var (pv 4)) r_int) (ra_cons (r_mod (r_mul (r_var (pv 4)) r_int) r_int) ra_nil))))))) (r_mod (r_add (r_ix kx (r_var (pv 1)) r_int) (r_div (r_var (pv 4)) r_int)) r_int))) (ss_wp [3, 4] ss_nil)))) (ss_one (s_retO (pv 2)))))
abbrev s_law_made : Stmt := topS 68
theorem sc_law_made : FnScope ["_law_draws_here", "_law_houses"] ["_law_draws_here"] (defScope s_law_made) := ⟨rfl, rfl, rfl, by decide +kernel, rfl, by decide +kernel, by decide +kernel⟩
theorem ok_law_made {f : Addr} {fd : FuncData} (F : Fun K "_law_made" "_law_made" s_law_made f fd) (T : Tx K mg) (c_law_losses : Cl P w ⟨K, mg⟩ base 1 "_law_losses" f_law_losses) (c_law_rows : Cl P w ⟨K, mg⟩ base 3 "_law_rows" f_law_rows) : FnOk P w K mg base (L2.CX P w) 4 f fd ["_law_draws_here"] (spF ⟨K, mg⟩ f_law_made) :=
  rf_ok (k := 3) (m := m_law_made) F sc_law_made (by decide) fun cdv A outer s H E om0 H0 v0 W hr ks => by
    have kx := ks.toKx
    exact (ss_cons (s_set (i := 1) kx rfl (by first | exact Or.inl rfl | exact Or.inr rfl) (r_add r_int (r_mod (r_add (r_ix kx (r_var (pv 0)) r_int) r_int) r_int))) (ss_one (s_ret (c_up (r_tup (ra_cons (r_var (pv 1)) (ra_cons (c_op (r_call kx c_law_rows (hr.mono (by decide)) (ra_cons (r_var (pv 1)) (ra_cons (c_op (r_slL kx (r_var (pv 0)) (ro_some r_int) (ro_some r_int))) ra_nil)))) (ra_cons (c_op (r_call kx c_law_losses (hr.mono (by decide)) (ra_cons (r_var (pv 1)) (ra_cons (c_op (r_slL kx (r_var (pv 0)) (ro_some r_int) (ro_some r_int))) ra_nil)))) ra_nil))))))))
abbrev s_law_split : Stmt := topS 69
theorem sc_law_split : FnScope ["_law_lines_here", "_law_most", "_law_borne", "_law_rows_here", "_law_crown", "_law_best", "_law_at", "_law_here"] ["_law_lines_here", "_law_most"] (defScope s_law_split) := ⟨rfl, rfl, rfl, by decide +kernel, rfl, by decide +kernel, by decide +kernel⟩
theorem ok_law_split {f : Addr} {fd : FuncData} (F : Fun K "_law_split" "_law_split" s_law_split f fd) (T : Tx K mg) : FnOk P w K mg base (L2.CX P w) 1 f fd ["_law_lines_here", "_law_most"] (spF ⟨K, mg⟩ f_law_split) :=
  rf_ok (k := 0) (m := m_law_split) F sc_law_split (by decide) fun cdv A outer s H E om0 H0 v0 W hr ks => by
    have kx := ks.toKx
    exact (ss_cons (s_own (i := 2) kx rfl (by first | exact Or.inl rfl | exact Or.inr rfl) (r_rep (c_op (r_lst (ra_cons r_int ra_nil))) (r_len kx T.b_len (ra_cons (r_var (pv 0)) ra_nil)))) (ss_cons (s_own (i := 3) kx rfl (by first | exact Or.inl rfl | exact Or.inr rfl) (r_lst (ra_cons (c_op (r_listc kx T.b_list (ra_cons (r_var (pv 2)) ra_nil))) ra_nil))) (ss_cons (s_forR1 ks T.b_range (ra_cons (r_var (pv 1)) ra_nil) (g_name (i := 4) kx.nd rfl (by first | exact Or.inl rfl | exact Or.inr rfl)) (ss_cons (s_set (i := 5) kx rfl (by first | exact Or.inl rfl | exact Or.inr rfl) r_int) (ss_cons (s_forR1 ks T.b_range (ra_cons (r_len kx T.b_len (ra_cons (r_var (pv 0)) ra_nil)) ra_nil) (g_name (i := 6) kx.nd rfl (by first | exact Or.inl rfl | exact Or.inr rfl)) (ss_cons (s_set (i := 7) kx rfl (by first | exact Or.inl rfl | exact Or.inr rfl) (r_mul (r_add (r_ix kx (r_var (pv 2)) (r_var (pv 6))) r_int) (r_ix kx (r_ix kx (r_var (pv 0)) (r_var (pv 5))) r_int))) (ss_cons (s_if (t_lt (r_var (pv 7)) (r_mul (r_add (r_ix kx (r_var (pv 2)) (r_var (pv 5))) r_int) (r_ix kx (r_ix kx (r_var (pv 0)) (r_var (pv 6))) r_int))) (ss_cons (s_set (i := 5) kx rfl (by first | exact Or.inl rfl | exact Or.inr rfl) (r_var (pv 6))) ss_nil) ss_nil) (ss_wp [6, 7] ss_nil)))) (ss_cons (s_it (pv 2) (r_var (pv 5)) (r_add (r_ix kx (r_var (pv 2)) (r_var (pv 5))) r_int)) (ss_cons (s_app (pv 3) (c_op (r_listc kx T.b_list (ra_cons (r_var (pv 2)) ra_nil)))) (ss_wp [4, 5] ss_nil)))))) (ss_one (s_retO (pv 3))))))
abbrev s_law_splits : Stmt := topS 70
theorem sc_law_splits : FnScope ["_law_covers", "_law_cover_here"] ["_law_covers"] (defScope s_law_splits) := ⟨rfl, rfl, rfl, by decide +kernel, rfl, by decide +kernel, by decide +kernel⟩
theorem ok_law_splits {f : Addr} {fd : FuncData} (F : Fun K "_law_splits" "_law_splits" s_law_splits f fd) (T : Tx K mg) (c_law_split : Cl P w ⟨K, mg⟩ base 1 "_law_split" f_law_split) : FnOk P w K mg base (L2.CX P w) 2 f fd ["_law_covers"] (spF ⟨K, mg⟩ f_law_splits) :=
  rf_ok (k := 1) (m := m_law_splits) F sc_law_splits (by decide) fun cdv A outer s H E om0 H0 v0 W hr ks => by
    have kx := ks.toKx
    exact (ss_one (s_ret (r_lc kx lcL_imp (pi_list (r_var (pv 0))) (blkOk_by (own := [("_law_cover_here", 1)]) (N := ["_law_covers", "_law_cover_here"]) (sc := defScope s_law_splits) (by decide +kernel)) (fun _ _ _ _ _ => pg_name (i := 1) kx.nd rfl (Or.inl rfl)) (fun _ _ _ _ _ kx => ts_nil) (fun _ _ _ _ _ kx => (c_op (r_call kx c_law_split (hr.mono (by decide)) (ra_cons (r_ix kx (r_var (pv 1)) r_int) (ra_cons (r_ix kx (r_var (pv 1)) r_int) ra_nil))))))))
abbrev s_law_loads : Stmt := topS 71
theorem sc_law_loads : FnScope ["_law_covers", "_law_losses_here", "_law_splits_here", "_law_account_here", "_law_row", "_law_at", "_law_lines_here", "_law_mine", "_law_k", "_law_signer"] ["_law_covers", "_law_losses_here", "_law_splits_here", "_law_account_here"] (defScope s_law_loads) := ⟨rfl, rfl, rfl, by decide +kernel, rfl, by decide +kernel, by decide +kernel⟩
theorem ok_law_loads {f : Addr} {fd : FuncData} (F : Fun K "_law_loads" "_law_loads" s_law_loads f fd) (T : Tx K mg) : FnOk P w K mg base (L2.CX P w) 1 f fd ["_law_covers", "_law_losses_here", "_law_splits_here", "_law_account_here"] (spF ⟨K, mg⟩ f_law_loads) :=
  rf_ok (k := 0) (m := m_law_loads) F sc_law_loads (by decide) fun cdv A outer s H E om0 H0 v0 W hr ks => by
    have kx := ks.toKx
    exact (ss_cons (s_own (i := 4) kx rfl (by first | exact Or.inl rfl | exact Or.inr rfl) (r_listc kx T.b_list (ra_cons (r_var (pv 1)) ra_nil))) (ss_cons (s_forR1 ks T.b_range (ra_cons (r_len kx T.b_len (ra_cons (r_var (pv 0)) ra_nil)) ra_nil) (g_name (i := 5) kx.nd rfl (by first | exact Or.inl rfl | exact Or.inr rfl)) (ss_cons (s_set (i := 6) kx rfl (by first | exact Or.inl rfl | exact Or.inr rfl) (r_ix kx (r_ix kx (r_var (pv 0)) (r_var (pv 5))) r_int)) (ss_cons (s_set (i := 7) kx rfl (by first | exact Or.inl rfl | exact Or.inr rfl) (r_ix kx (r_ix kx (r_var (pv 2)) (r_var (pv 5))) (r_ix kx (r_var (pv 3)) (r_var (pv 5))))) (ss_cons (s_forR1 ks T.b_range (ra_cons (r_len kx T.b_len (ra_cons (r_var (pv 6)) ra_nil)) ra_nil) (g_name (i := 8) kx.nd rfl (by first | exact Or.inl rfl | exact Or.inr rfl)) (ss_cons (s_set (i := 9) kx rfl (by first | exact Or.inl rfl | exact Or.inr rfl) (r_ix kx (r_ix kx (r_var (pv 6)) (r_var (pv 8))) r_int)) (ss_cons (s_it (pv 4) (r_var (pv 9)) (r_add (r_ix kx (r_var (pv 4)) (r_var (pv 9))) (r_ix kx (r_var (pv 7)) (r_var (pv 8))))) (ss_wp [8, 9] ss_nil)))) (ss_wp [5, 6, 7] ss_nil))))) (ss_one (s_retO (pv 4)))))
abbrev s_law_take : Stmt := topS 72
theorem sc_law_take : FnScope ["_law_kind", "_law_by", "_law_most", "_law_reach"] ["_law_kind", "_law_by", "_law_most", "_law_reach"] (defScope s_law_take) := ⟨rfl, rfl, rfl, by decide +kernel, rfl, by decide +kernel, by decide +kernel⟩
theorem ok_law_take {f : Addr} {fd : FuncData} (F : Fun K "_law_take" "_law_take" s_law_take f fd) (T : Tx K mg) : FnOk P w K mg base (L2.CX P w) 1 f fd ["_law_kind", "_law_by", "_law_most", "_law_reach"] (spF ⟨K, mg⟩ f_law_take) :=
  rf_ok (k := 0) (m := m_law_take) F sc_law_take (by decide) fun cdv A outer s H E om0 H0 v0 W hr ks => by
    have kx := ks.toKx
    exact (ss_cons (s_if (t_eq kx (r_var (pv 0)) r_str) (ss_one (s_ret (c_up (r_min2 kx T.b_min (ra_cons (r_var (pv 2)) (ra_cons (r_div (r_mul (r_var (pv 3)) (r_var (pv 1))) r_int) ra_nil)))))) ss_nil) (ss_cons (s_if (t_le (r_var (pv 3)) (r_var (pv 1))) (ss_one (s_ret (c_up r_int))) ss_nil) (ss_one (s_ret (c_up (r_min2 kx T.b_min (ra_cons (r_var (pv 2)) (ra_cons (r_sub (r_var (pv 3)) (r_var (pv 1))) ra_nil))))))))
abbrev s_law_passed : Stmt := topS 73
theorem sc_law_passed : FnScope ["_law_covers", "_law_losses_here", "_law_splits_here", "_law_account_here", "_law_left", "_law_asks", "_law_house", "_law_kind", "_law_by", "_law_most", "_law_lines_here", "_law_crowns"] ["_law_covers", "_law_losses_here", "_law_splits_here", "_law_account_here"] (defScope s_law_passed) := ⟨rfl, rfl, rfl, by decide +kernel, rfl, by decide +kernel, by decide +kernel⟩
theorem ok_law_passed {f : Addr} {fd : FuncData} (F : Fun K "_law_passed" "_law_passed" s_law_passed f fd) (T : Tx K mg) (c_law_loads : Cl P w ⟨K, mg⟩ base 1 "_law_loads" f_law_loads) (c_law_take : Cl P w ⟨K, mg⟩ base 1 "_law_take" f_law_take) : FnOk P w K mg base (L2.CX P w) 2 f fd ["_law_covers", "_law_losses_here", "_law_splits_here", "_law_account_here"] (spF ⟨K, mg⟩ f_law_passed) :=
  rf_ok (k := 1) (m := m_law_passed) F sc_law_passed (by decide) fun cdv A outer s H E om0 H0 v0 W hr ks => by
    have kx := ks.toKx
    exact (ss_cons (s_own (i := 4) kx rfl (by first | exact Or.inl rfl | exact Or.inr rfl) (r_call kx c_law_loads (hr.mono (by decide)) (ra_cons (r_var (pv 0)) (ra_cons (r_var (pv 1)) (ra_cons (r_var (pv 2)) (ra_cons (r_var (pv 3)) ra_nil)))))) (ss_cons (s_own (i := 5) kx rfl (by first | exact Or.inl rfl | exact Or.inr rfl) (r_lst ra_nil)) (ss_cons (s_forL ks (r_var (pv 0)) (g_tup kx (gs_cons (g_name (i := 6) kx.nd rfl (by first | exact Or.inl rfl | exact Or.inr rfl)) (gs_cons (g_name (i := 7) kx.nd rfl (by first | exact Or.inl rfl | exact Or.inr rfl)) (gs_cons (g_name (i := 8) kx.nd rfl (by first | exact Or.inl rfl | exact Or.inr rfl)) (gs_cons (g_name (i := 9) kx.nd rfl (by first | exact Or.inl rfl | exact Or.inr rfl)) (gs_cons (g_name (i := 10) kx.nd rfl (by first | exact Or.inl rfl | exact Or.inr rfl)) gs_nil)))))) (ss_cons (s_set (i := 11) kx rfl (by first | exact Or.inl rfl | exact Or.inr rfl) (c_op (r_call kx c_law_take (hr.mono (by decide)) (ra_cons (r_var (pv 7)) (ra_cons (r_var (pv 8)) (ra_cons (r_var (pv 9)) (ra_cons (r_ix kx (r_var (pv 4)) (r_var (pv 6))) ra_nil))))))) (ss_cons (s_it (pv 4) (r_var (pv 6)) (r_sub (r_ix kx (r_var (pv 4)) (r_var (pv 6))) (r_var (pv 11)))) (ss_cons (s_app (pv 5) (r_var (pv 11))) (ss_wp [6, 7, 8, 9, 10, 11] ss_nil))))) (ss_cold 4 (ss_cold 5 (ss_one (s_ret (c_up (r_tup (ra_cons (r_var (pv 5)) (ra_cons (r_var (pv 4)) ra_nil)))))))))))
abbrev s_law_come : Stmt := topS 74
theorem sc_law_come : FnScope ["_law_covers", "_law_losses_here", "_law_splits_here", "_law_account_here", "_law_here", "_law_asks", "_law_k"] ["_law_covers", "_law_losses_here", "_law_splits_here", "_law_account_here"] (defScope s_law_come) := ⟨rfl, rfl, rfl, by decide +kernel, rfl, by decide +kernel, by decide +kernel⟩
theorem ok_law_come {f : Addr} {fd : FuncData} (F : Fun K "_law_come" "_law_come" s_law_come f fd) (T : Tx K mg) (c_law_passed : Cl P w ⟨K, mg⟩ base 2 "_law_passed" f_law_passed) : FnOk P w K mg base (L2.CX P w) 3 f fd ["_law_covers", "_law_losses_here", "_law_splits_here", "_law_account_here"] (spF ⟨K, mg⟩ f_law_come) :=
  rf_ok (k := 2) (m := m_law_come) F sc_law_come (by decide) fun cdv A outer s H E om0 H0 v0 W hr ks => by
    have kx := ks.toKx
    exact (ss_cons (s_set (i := 4) kx rfl (by first | exact Or.inl rfl | exact Or.inr rfl) (c_op (r_listc kx T.b_list (ra_cons (r_var (pv 3)) ra_nil)))) (ss_cons (s_set (i := 5) kx rfl (by first | exact Or.inl rfl | exact Or.inr rfl) (r_ix kx (c_op (r_call kx c_law_passed (hr.mono (by decide)) (ra_cons (r_var (pv 0)) (ra_cons (r_var (pv 1)) (ra_cons (r_var (pv 2)) (ra_cons (r_var (pv 4)) ra_nil)))))) r_int)) (ss_cons (s_forR1 ks T.b_range (ra_cons r_int ra_nil) (g_name (i := 6) kx.nd rfl (by first | exact Or.inl rfl | exact Or.inr rfl)) (ss_cons (s_if (t_ne kx (r_var (pv 5)) (r_var (pv 4))) (ss_cons (s_set (i := 4) kx rfl (by first | exact Or.inl rfl | exact Or.inr rfl) (r_var (pv 5))) (ss_cons (s_set (i := 5) kx rfl (by first | exact Or.inl rfl | exact Or.inr rfl) (r_ix kx (c_op (r_call kx c_law_passed (hr.mono (by decide)) (ra_cons (r_var (pv 0)) (ra_cons (r_var (pv 1)) (ra_cons (r_var (pv 2)) (ra_cons (r_var (pv 4)) ra_nil)))))) r_int)) ss_nil)) ss_nil) (ss_wp [6] ss_nil))) (ss_one (s_ret (c_up (r_var (pv 4))))))))
abbrev s_law_below : Stmt := topS 75
theorem sc_law_below : FnScope ["_law_one", "_law_other", "_law_at"] ["_law_one", "_law_other"] (defScope s_law_below) := ⟨rfl, rfl, rfl, by decide +kernel, rfl, by decide +kernel, by decide +kernel⟩
theorem ok_law_below {f : Addr} {fd : FuncData} (F : Fun K "_law_below" "_law_below" s_law_below f fd) (T : Tx K mg) : FnOk P w K mg base (L2.CX P w) 1 f fd ["_law_one", "_law_other"] (spF ⟨K, mg⟩ f_law_below) :=
  rf_ok (k := 0) (m := m_law_below) F sc_law_below (by decide) fun cdv A outer s H E om0 H0 v0 W hr ks => by
    have kx := ks.toKx
    exact (ss_cons (s_forR1 ks T.b_range (ra_cons (r_len kx T.b_len (ra_cons (r_var (pv 0)) ra_nil)) ra_nil) (g_name (i := 2) kx.nd rfl (by first | exact Or.inl rfl | exact Or.inr rfl)) (ss_cons (s_if (t_gt (r_ix kx (r_var (pv 0)) (r_var (pv 2))) (r_ix kx (r_var (pv 1)) (r_var (pv 2)))) (ss_one (s_ret (c_up r_bl))) ss_nil) (ss_wp [2] ss_nil))) (ss_one (s_ret (c_up r_bl))))
abbrev s_law_account : Stmt := topS 76
theorem sc_law_account : FnScope ["_law_covers", "_law_draws_here", "_law_at"] ["_law_covers", "_law_draws_here"] (defScope s_law_account) := ⟨rfl, rfl, rfl, by decide +kernel, rfl, by decide +kernel, by decide +kernel⟩
theorem ok_law_account {f : Addr} {fd : FuncData} (F : Fun K "_law_account" "_law_account" s_law_account f fd) (T : Tx K mg) : FnOk P w K mg base (L2.CX P w) 1 f fd ["_law_covers", "_law_draws_here"] (spF ⟨K, mg⟩ f_law_account) :=
  rf_ok (k := 0) (m := m_law_account) F sc_law_account (by decide) fun cdv A outer s H E om0 H0 v0 W hr ks => by
    have kx := ks.toKx
    exact (ss_one (s_ret (r_lc kx lcR1_imp (pi_range1 rfl T.b_range (ra_cons (r_len kx T.b_len (ra_cons (r_var (pv 0)) ra_nil)) ra_nil)) (blkOk_by (own := [("_law_at", 2)]) (N := ["_law_covers", "_law_draws_here", "_law_at"]) (sc := defScope s_law_account) (by decide +kernel)) (fun _ _ _ _ _ => pg_name (i := 2) kx.nd rfl (Or.inl rfl)) (fun _ _ _ _ _ kx => ts_nil) (fun _ _ _ _ _ kx => (r_mod (r_ix kx (r_var (pv 1)) (r_var (pv 2))) (r_add (r_ix kx (r_ix kx (r_var (pv 0)) (r_var (pv 2))) r_int) r_int))))))
abbrev s_law_least : Stmt := topS 77
theorem sc_law_least : FnScope ["_law_covers", "_law_losses_here", "_law_splits_here"] ["_law_covers", "_law_losses_here", "_law_splits_here"] (defScope s_law_least) := ⟨rfl, rfl, rfl, by decide +kernel, rfl, by decide +kernel, by decide +kernel⟩
theorem ok_law_least {f : Addr} {fd : FuncData} (F : Fun K "_law_least" "_law_least" s_law_least f fd) (T : Tx K mg) (c_law_come : Cl P w ⟨K, mg⟩ base 3 "_law_come" f_law_come) : FnOk P w K mg base (L2.CX P w) 4 f fd ["_law_covers", "_law_losses_here", "_law_splits_here"] (spF ⟨K, mg⟩ f_law_least) :=
  rf_ok (k := 3) (m := m_law_least) F sc_law_least (by decide) fun cdv A outer s H E om0 H0 v0 W hr ks => by
    have kx := ks.toKx
    exact (ss_one (s_ret (r_call kx c_law_come (hr.mono (by decide)) (ra_cons (r_var (pv 0)) (ra_cons (r_var (pv 1)) (ra_cons (r_var (pv 2)) (ra_cons (c_op (r_rep (c_op (r_lst (ra_cons r_int ra_nil))) (r_len kx T.b_len (ra_cons (r_var (pv 0)) ra_nil)))) ra_nil)))))))
abbrev s_law_door : Stmt := topS 78
theorem sc_law_door : FnScope ["_law_door_here", "_law_table", "_law_one", "_law_other", "_law_bad", "_law_e"] ["_law_door_here", "_law_table", "_law_one", "_law_other"] (defScope s_law_door) := ⟨rfl, rfl, rfl, by decide +kernel, rfl, by decide +kernel, by decide +kernel⟩
theorem ok_law_door {f : Addr} {fd : FuncData} (F : Fun K "_law_door" "_law_door" s_law_door f fd) (T : Tx K mg) (c_law_seen : Cle P w ⟨K, mg⟩ base 1 "_law_seen" seen_) (RG : ∀ x C b, ring_ x = some b → mg x = some (.ref C) → PySem.W.exmOne K (.ref C) (.ref T.C_RingError) = some b) (c_above : Cl P w ⟨K, mg⟩ base 5 "above" f_above) (c_agrees : Cl P w ⟨K, mg⟩ base 4 "agrees" f_agrees) (c_asked : Cl P w ⟨K, mg⟩ base 3 "asked" f_asked) (c_backed : Cl P w ⟨K, mg⟩ base 4 "backed" f_backed) (c_below : Cl P w ⟨K, mg⟩ base 5 "below" f_below) (c_burdens : Cl P w ⟨K, mg⟩ base 3 "burdens" f_burdens) (c_enough : Cl P w ⟨K, mg⟩ base 4 "enough" f_enough) (c_joint : Cl P w ⟨K, mg⟩ base 6 "joint" f_joint) (c_kept : Cl P w ⟨K, mg⟩ base 5 "kept" f_kept) (c_meeting : Cl P w ⟨K, mg⟩ base 6 "meeting" f_meeting) (c_shows : Cl P w ⟨K, mg⟩ base 3 "shows" f_shows) : FnOk P w K mg base (L2.CX P w) 7 f fd ["_law_door_here", "_law_table", "_law_one", "_law_other"] (spF ⟨K, mg⟩ f_law_door) :=
  rf_ok (k := 6) (m := m_law_door) F sc_law_door (by decide) fun cdv A outer s H E om0 H0 v0 W hr ks => by
    have kx := ks.toKx
    exact (ss_cons (s_set (i := 4) kx rfl (by first | exact Or.inl rfl | exact Or.inr rfl) (c_op (r_lst ra_nil))) (ss_cons (s_try (c := .ref T.C_RingError) (i := 5) (j := 4) (ring := ring_) (seen := seen_) ks rfl rfl rfl rfl ⟨rfl, by decide, .inl T.g_RingError⟩ RG (fun W pn xe ks => by
      have kx := ks.toKx
      exact (ss_cons (s_if (t_eq kx (r_var (pv 0)) r_int) (ss_cons (s_exp (r_call kx c_burdens (hr.mono (by decide)) (ra_cons (r_var (pv 1)) (ra_cons (r_var (pv 2)) ra_nil)))) ss_nil) (ss_cons (s_if (t_eq kx (r_var (pv 0)) r_int) (ss_cons (s_exp (r_call kx c_asked (hr.mono (by decide)) (ra_cons (r_var (pv 1)) (ra_cons (r_var (pv 2)) ra_nil)))) ss_nil) (ss_cons (s_if (t_eq kx (r_var (pv 0)) r_int) (ss_cons (s_exp (r_call kx c_agrees (hr.mono (by decide)) (ra_cons (r_var (pv 1)) (ra_cons (r_var (pv 2)) ra_nil)))) ss_nil) (ss_cons (s_if (t_eq kx (r_var (pv 0)) r_int) (ss_cons (s_exp (r_call kx c_backed (hr.mono (by decide)) (ra_cons (r_var (pv 1)) (ra_cons (r_var (pv 2)) ra_nil)))) ss_nil) (ss_cons (s_if (t_eq kx (r_var (pv 0)) r_int) (ss_cons (s_exp (r_call kx c_enough (hr.mono (by decide)) (ra_cons (r_var (pv 1)) (ra_cons (r_var (pv 2)) ra_nil)))) ss_nil) (ss_cons (s_if (t_eq kx (r_var (pv 0)) r_int) (ss_cons (s_exp (r_call kx c_kept (hr.mono (by decide)) (ra_cons (r_var (pv 1)) (ra_cons (r_var (pv 2)) ra_nil)))) ss_nil) (ss_cons (s_if (t_eq kx (r_var (pv 0)) r_int) (ss_cons (s_exp (r_call kx c_shows (hr.mono (by decide)) (ra_cons (r_var (pv 1)) (ra_cons (c_op (r_lst ra_nil)) (ra_cons (r_var (pv 2)) ra_nil))))) ss_nil) (ss_cons (s_if (t_eq kx (r_var (pv 0)) r_int) (ss_cons (s_exp (r_call kx c_above (hr.mono (by decide)) (ra_cons (r_var (pv 1)) (ra_cons (r_var (pv 2)) ra_nil)))) ss_nil) (ss_cons (s_if (t_eq kx (r_var (pv 0)) r_int) (ss_cons (s_exp (r_call kx c_below (hr.mono (by decide)) (ra_cons (r_var (pv 1)) (ra_cons (r_var (pv 2)) ra_nil)))) ss_nil) (ss_cons (s_if (t_eq kx (r_var (pv 0)) r_int) (ss_cons (s_exp (r_call kx c_joint (hr.mono (by decide)) (ra_cons (r_var (pv 1)) (ra_cons (r_var (pv 2)) (ra_cons (r_var (pv 3)) ra_nil))))) ss_nil) (ss_cons (s_exp (r_call kx c_meeting (hr.mono (by decide)) (ra_cons (r_var (pv 1)) (ra_cons (r_var (pv 2)) (ra_cons (r_var (pv 3)) ra_nil))))) ss_nil)) ss_nil)) ss_nil)) ss_nil)) ss_nil)) ss_nil)) ss_nil)) ss_nil)) ss_nil)) ss_nil)) ss_nil)) (fun a oe cls d pn hz hf => by
      obtain ⟨f0, fd0, ps0, F0, m0, k0, b0⟩ := c_law_seen
      exact s_see F0 (hr.mono (by decide)) kx.nd rfl (by first | exact Or.inl rfl | exact Or.inr rfl) (by first | exact Or.inl rfl | exact Or.inr rfl) (fun pn => pv 5) rfl m0 k0 b0 hz hf)) (ss_one (s_ret (c_up (r_var (pv 4)))))))
abbrev s_law_spoilt : Stmt := topS 79
theorem sc_law_spoilt : FnScope ["_law_account_here", "_law_mosts", "_law_draws_here", "_law_spoil", "_law_at", "_law_odd"] ["_law_account_here", "_law_mosts", "_law_draws_here"] (defScope s_law_spoilt) := ⟨rfl, rfl, rfl, by decide +kernel, rfl, by decide +kernel, by decide +kernel⟩
theorem ok_law_spoilt {f : Addr} {fd : FuncData} (F : Fun K "_law_spoilt" "_law_spoilt" s_law_spoilt f fd) (T : Tx K mg) : FnOk P w K mg base (L2.CX P w) 1 f fd ["_law_account_here", "_law_mosts", "_law_draws_here"] (spF ⟨K, mg⟩ f_law_spoilt) :=
  rf_ok (k := 0) (m := m_law_spoilt) F sc_law_spoilt (by decide) fun cdv A outer s H E om0 H0 v0 W hr ks => by
    have kx := ks.toKx
    exact (ss_cons (s_set (i := 3) kx rfl (by first | exact Or.inl rfl | exact Or.inr rfl) (r_mod (r_ix kx (r_var (pv 2)) r_int) r_int)) (ss_cons (s_if (t_eq kx (r_len kx T.b_len (ra_cons (r_var (pv 0)) ra_nil)) r_int) (ss_one (s_ret (r_lst (ra_cons (r_ix kx (r_var (pv 2)) r_int) ra_nil)))) ss_nil) (ss_cons (s_set (i := 4) kx rfl (by first | exact Or.inl rfl | exact Or.inr rfl) (r_mod (r_ix kx (r_var (pv 2)) r_int) (r_len kx T.b_len (ra_cons (r_var (pv 0)) ra_nil)))) (ss_cons (s_if (t_eq kx (r_var (pv 3)) r_int) (ss_one (s_ret (r_cat (c_op (r_cat (c_op (r_slL kx (r_var (pv 0)) ro_none (ro_some (r_var (pv 4))))) (c_op (r_lst (ra_cons (r_sub (r_neg r_int) (r_mod (r_ix kx (r_var (pv 2)) r_int) r_int)) ra_nil))))) (c_op (r_slL kx (r_var (pv 0)) (ro_some (r_add (r_var (pv 4)) r_int)) ro_none))))) ss_nil) (ss_cons (s_if (t_eq kx (r_var (pv 3)) r_int) (ss_cons (s_set (i := 5) kx rfl (by first | exact Or.inl rfl | exact Or.inr rfl) (r_add (r_add (r_ix kx (r_var (pv 1)) (r_var (pv 4))) r_int) (r_mod (r_ix kx (r_var (pv 2)) r_int) r_int))) (ss_one (s_ret (r_cat (c_op (r_cat (c_op (r_slL kx (r_var (pv 0)) ro_none (ro_some (r_var (pv 4))))) (c_op (r_lst (ra_cons (r_var (pv 5)) ra_nil))))) (c_op (r_slL kx (r_var (pv 0)) (ro_some (r_add (r_var (pv 4)) r_int)) ro_none)))))) ss_nil) (ss_cons (s_if (t_eq kx (r_var (pv 3)) r_int) (ss_one (s_ret (r_cat (c_op (r_cat (c_op (r_slL kx (r_var (pv 0)) ro_none (ro_some (r_var (pv 4))))) (c_op (r_lst (ra_cons r_int ra_nil))))) (c_op (r_slL kx (r_var (pv 0)) (ro_some (r_var (pv 4))) ro_none))))) ss_nil) (ss_cons (s_if (t_eq kx (r_var (pv 3)) r_int) (ss_one (s_ret (r_cat (c_op (r_slL kx (r_var (pv 0)) ro_none (ro_some (r_var (pv 4))))) (c_op (r_slL kx (r_var (pv 0)) (ro_some (r_add (r_var (pv 4)) r_int)) ro_none))))) ss_nil) (ss_cons (s_if (t_eq kx (r_var (pv 3)) r_int) (ss_one (s_ret (r_cat (c_op (r_cat (c_op (r_slL kx (r_var (pv 0)) ro_none (ro_some (r_var (pv 4))))) (c_op (r_lst (ra_cons (r_pow r_int r_int) ra_nil))))) (c_op (r_slL kx (r_var (pv 0)) (ro_some (r_add (r_var (pv 4)) r_int)) ro_none))))) ss_nil) (ss_one (s_ret (c_up (r_var (pv 0)))))))))))))
abbrev s_law : Stmt := topS 80
theorem sc_law : FnScope ["_law_script", "_law_draws_here", "_law_houses", "_law_covers", "_law_losses_here", "_law_table", "_law_mosts", "_law_cover_here", "_law_good", "_law_drawn", "_law_bad", "_law_due_here", "_law_door_here", "_law_first", "_law_second", "_law_third", "_law_fourth"] ["_law_script"] (defScope s_law) := ⟨rfl, rfl, rfl, by decide +kernel, rfl, by decide +kernel, by decide +kernel⟩
theorem ok_law {f : Addr} {fd : FuncData} (F : Fun K "law" "law" s_law f fd) (T : Tx K mg) (c_Table___init__ : Clc P w ⟨K, mg⟩ base 3 "Table" f_Table___init__) (c_law_account : Cl P w ⟨K, mg⟩ base 1 "_law_account" f_law_account) (c_law_below : Cl P w ⟨K, mg⟩ base 1 "_law_below" f_law_below) (c_law_door : Cl P w ⟨K, mg⟩ base 7 "_law_door" f_law_door) (c_law_draws : Cl P w ⟨K, mg⟩ base 1 "_law_draws" f_law_draws) (c_law_due : Cl P w ⟨K, mg⟩ base 1 "_law_due" f_law_due) (c_law_least : Cl P w ⟨K, mg⟩ base 4 "_law_least" f_law_least) (c_law_made : Cl P w ⟨K, mg⟩ base 4 "_law_made" f_law_made) (c_law_splits : Cl P w ⟨K, mg⟩ base 2 "_law_splits" f_law_splits) (c_law_spoilt : Cl P w ⟨K, mg⟩ base 1 "_law_spoilt" f_law_spoilt) : FnOk P w K mg base (L2.CX P w) 8 f fd ["_law_script"] (spF ⟨K, mg⟩ f_law) :=
  rf_ok (k := 7) (m := m_law) F sc_law (by decide) fun cdv A outer s H E om0 H0 v0 W hr ks => by
    have kx := ks.toKx
    exact (ss_cons (s_set (i := 1) kx rfl (by first | exact Or.inl rfl | exact Or.inr rfl) (c_op (r_call kx c_law_draws (hr.mono (by decide)) (ra_cons (r_var (pv 0)) (ra_cons r_int ra_nil))))) (ss_cons (s_unp (c_op (r_call kx c_law_made (hr.mono (by decide)) (ra_cons (r_var (pv 1)) ra_nil))) (g_tup kx (gs_cons (g_name (i := 2) kx.nd rfl (by first | exact Or.inl rfl | exact Or.inr rfl)) (gs_cons (g_name (i := 3) kx.nd rfl (by first | exact Or.inl rfl | exact Or.inr rfl)) (gs_cons (g_name (i := 4) kx.nd rfl (by first | exact Or.inl rfl | exact Or.inr rfl)) gs_nil))))) (ss_cons (s_set (i := 5) kx rfl (by first | exact Or.inl rfl | exact Or.inr rfl) (c_op (r_make kx c_Table___init__ (hr.mono (by decide)) (ra_cons (r_var (pv 2)) (ra_cons (r_var (pv 3)) (ra_cons (r_var (pv 4)) ra_nil)))))) (ss_cons (s_lc (i := 6) kx rfl rfl lcL_imp (pi_list (r_var (pv 3))) (blkOk_by (own := [("_law_cover_here", 7)]) (N := ["_law_script", "_law_draws_here", "_law_houses", "_law_covers", "_law_losses_here", "_law_table", "_law_mosts", "_law_cover_here", "_law_good", "_law_drawn", "_law_bad", "_law_due_here", "_law_door_here", "_law_first", "_law_second", "_law_third", "_law_fourth"]) (sc := defScope s_law) (by decide +kernel)) (fun _ _ _ _ _ => pg_name (i := 7) kx.nd rfl (Or.inl rfl)) (fun _ _ _ _ _ kx => ts_nil) (fun _ _ _ _ _ kx => (r_ix kx (r_var (pv 7)) r_int)) (sw_true rfl rfl rfl (by decide +kernel))) (ss_cons (s_set (i := 8) kx rfl (by first | exact Or.inl rfl | exact Or.inr rfl) (c_op (r_call kx c_law_least (hr.mono (by decide)) (ra_cons (r_var (pv 3)) (ra_cons (r_var (pv 4)) (ra_cons (c_op (r_call kx c_law_splits (hr.mono (by decide)) (ra_cons (r_var (pv 3)) ra_nil))) ra_nil)))))) (ss_cons (s_set (i := 9) kx rfl (by first | exact Or.inl rfl | exact Or.inr rfl) (c_op (r_call kx c_law_account (hr.mono (by decide)) (ra_cons (r_var (pv 3)) (ra_cons (c_op (r_slL kx (r_var (pv 1)) (ro_some r_int) (ro_some r_int))) ra_nil))))) (ss_cons (s_set (i := 10) kx rfl (by first | exact Or.inl rfl | exact Or.inr rfl) (c_op (r_call kx c_law_account (hr.mono (by decide)) (ra_cons (r_var (pv 3)) (ra_cons (c_op (r_slL kx (r_var (pv 1)) (ro_some r_int) (ro_some r_int))) ra_nil))))) (ss_cons (s_set (i := 10) kx rfl (by first | exact Or.inl rfl | exact Or.inr rfl) (c_op (r_call kx c_law_spoilt (hr.mono (by decide)) (ra_cons (r_var (pv 10)) (ra_cons (r_var (pv 6)) (ra_cons (c_op (r_slL kx (r_var (pv 1)) (ro_some r_int) (ro_some r_int))) ra_nil)))))) (ss_cons (s_set (i := 11) kx rfl (by first | exact Or.inl rfl | exact Or.inr rfl) (c_op (r_call kx c_law_due (hr.mono (by decide)) (ra_cons r_str ra_nil)))) (ss_cons (s_if (PW.pt (tw_and (t_eq kx (r_len kx T.b_len (ra_cons (r_var (pv 10)) ra_nil)) (r_len kx T.b_len (ra_cons (r_var (pv 6)) ra_nil))) (pw_and1 (t_val (c_op (r_call kx c_law_below (hr.mono (by decide)) (ra_cons (r_var (pv 10)) (ra_cons (r_var (pv 6)) ra_nil)))))))) (ss_cons (s_if (t_val (c_op (r_call kx c_law_below (hr.mono (by decide)) (ra_cons (c_op (r_rep (c_op (r_lst (ra_cons r_int ra_nil))) (r_len kx T.b_len (ra_cons (r_var (pv 10)) ra_nil)))) (ra_cons (r_var (pv 10)) ra_nil))))) (ss_cons (s_set (i := 11) kx rfl (by first | exact Or.inl rfl | exact Or.inr rfl) (c_op (r_lst ra_nil))) ss_nil) ss_nil) ss_nil) ss_nil) (ss_cons (s_forR1 ks T.b_range (ra_cons r_int ra_nil) (g_name (i := 12) kx.nd rfl (by first | exact Or.inl rfl | exact Or.inr rfl)) (ss_cons (s_set (i := 13) kx rfl (by first | exact Or.inl rfl | exact Or.inr rfl) (c_op (r_call kx c_law_door (hr.mono (by decide)) (ra_cons (r_var (pv 12)) (ra_cons (r_var (pv 5)) (ra_cons (c_op (r_listc kx T.b_list (ra_cons (r_var (pv 10)) ra_nil))) (ra_cons (c_op (r_listc kx T.b_list (ra_cons (r_var (pv 8)) ra_nil))) ra_nil))))))) (ss_cons (s_set (i := 14) kx rfl (by first | exact Or.inl rfl | exact Or.inr rfl) (c_op (r_call kx c_law_door (hr.mono (by decide)) (ra_cons (r_var (pv 12)) (ra_cons (r_var (pv 5)) (ra_cons (c_op (r_listc kx T.b_list (ra_cons (r_var (pv 8)) ra_nil))) (ra_cons (c_op (r_listc kx T.b_list (ra_cons (r_var (pv 10)) ra_nil))) ra_nil))))))) (ss_cons (s_set (i := 15) kx rfl (by first | exact Or.inl rfl | exact Or.inr rfl) (c_op (r_call kx c_law_door (hr.mono (by decide)) (ra_cons (r_var (pv 12)) (ra_cons (r_var (pv 5)) (ra_cons (c_op (r_listc kx T.b_list (ra_cons (r_var (pv 10)) ra_nil))) (ra_cons (c_op (r_listc kx T.b_list (ra_cons (r_var (pv 10)) ra_nil))) ra_nil))))))) (ss_cons (s_set (i := 16) kx rfl (by first | exact Or.inl rfl | exact Or.inr rfl) (c_op (r_call kx c_law_door (hr.mono (by decide)) (ra_cons (r_var (pv 12)) (ra_cons (r_var (pv 5)) (ra_cons (c_op (r_listc kx T.b_list (ra_cons (r_var (pv 9)) ra_nil))) (ra_cons (c_op (r_listc kx T.b_list (ra_cons (r_var (pv 10)) ra_nil))) ra_nil))))))) (ss_cons (s_if (PW.pt (tw_and (t_eq kx (r_var (pv 11)) (c_op (r_lst ra_nil))) (tw_and (t_in kx (r_var (pv 12)) (r_tup (ra_cons r_int (ra_cons r_int (ra_cons r_int (ra_cons r_int (ra_cons r_int (ra_cons r_int ra_nil)))))))) (pw_and1 (t_ne kx (r_var (pv 13)) (c_op (r_lst ra_nil))))))) (ss_one (s_ret (c_up r_bl))) ss_nil) (ss_cons (s_if (PW.pt (tw_and (t_ne kx (r_var (pv 11)) (c_op (r_lst ra_nil))) (pw_and1 (PW.pt (tw_or (t_ne kx (r_var (pv 13)) (r_var (pv 11))) (pw_or1 (t_ne kx (r_var (pv 15)) (r_var (pv 11))))))))) (ss_one (s_ret (c_up r_bl))) ss_nil) (ss_cons (s_if (PW.pt (tw_and (t_ne kx (r_var (pv 11)) (c_op (r_lst ra_nil))) (tw_and (t_gt (r_var (pv 12)) r_int) (pw_and1 (PW.pt (tw_or (t_ne kx (r_var (pv 14)) (r_var (pv 11))) (pw_or1 (t_ne kx (r_var (pv 16)) (r_var (pv 11)))))))))) (ss_one (s_ret (c_up r_bl))) ss_nil) (ss_cons (s_if (t_ne kx (c_op (r_call kx c_law_door (hr.mono (by decide)) (ra_cons (r_var (pv 12)) (ra_cons (r_var (pv 5)) (ra_cons (c_op (r_listc kx T.b_list (ra_cons (r_var (pv 8)) ra_nil))) (ra_cons (c_op (r_listc kx T.b_list (ra_cons (r_var (pv 8)) ra_nil))) ra_nil)))))) (c_op (r_lst ra_nil))) (ss_one (s_ret (c_up r_bl))) ss_nil) (ss_wp [12, 13, 14, 15, 16] ss_nil)))))))))) (ss_one (s_ret (c_up r_bl))))))))))))))
end
end RC
set_option Elab.async false
set_option linter.all false
set_option maxRecDepth 100000
set_option maxHeartbeats 4000000
namespace RC
open PySem PySem.Spec PyProof.Rows L2
def spLaw (K : PySem.W.Frag) : Sp := fun vs H Q _ => ∃ (a : Addr) (ns : List Int), vs = [.ref a] ∧ SqL K H a (ns.map V.int) ∧ ns.length ≤ 63 ∧ ∀ H', Q (.bl true) H'
theorem law_sp {K : PySem.W.Frag} {mg : Str → Option Value} (vs : List V) (H : Hp) (Q : VK) (E : XK) (h : spLaw K vs H Q E) : spF ⟨K, mg⟩ f_law vs H Q E := by
  obtain ⟨a, ns, rfl, hS, hl, q⟩ := h
  refine ⟨fun _ => none, [.fz (.scr ns)], fun a l h => (nomatch h), fun a l h => (nomatch h), ⟨_, _, rfl, ?_, rfl⟩, ?_⟩
  · show Hd _ _ _ _
    unfold Hd
    exact ⟨a, rfl, hS⟩
  · obtain ⟨o, ho⟩ := law_of cf_law (law_true ns hl)
    rw [ho]
    intro v om' H' _ _ ro _
    have : v = .bl true := by simpa [ROk, Hd] using ro
    subst this
    exact q H'
theorem all_mk {l : PySem.W.OpenLaw} {w : World} {K : PySem.W.Frag} {h : Heap} {mg : Str → Option Value} {fa : Addr} {tk_MOST_SIGNERS : Tok} {tk_MOST_HOUSES : Tok} {tk_MOST_LINE : Tok} {tk_MOST_POINT : Tok} {tk_MOST : Tok} {C_BadHouses : Addr} {tk_MOST_COVERS : Tok} {C_BadCover : Addr} {C_BadLosses : Addr} {tk_MOST_LOSS : Tok} {C_BadAccount : Addr} {C_Unbacked : Addr} {C_Short : Addr} {C_Disagrees : Addr} {C_BadLines : Addr} {C_BadCrowns : Addr} {C_NoHouse : Addr} {C_BadDay : Addr} {C_NoLoss : Addr} {C_NoHappening : Addr} {C_NoCover : Addr} {C_Full : Addr} {C_Same : Addr} {C_Endless : Addr} {C_BadTerms : Addr} {C_BadText : Addr} {C_Nothing : Addr} {C_BadDeed : Addr} {C_RingError : Addr} {C_Table : Addr} {f_are_lines_ : Addr} {od0 an0 : Option Addr} {sl0 : Array (Option Value)} {oc0 kV0 dc0 pm0 cd0 ct0 : Value} {f_foremost_ : Addr} {od1 an1 : Option Addr} {sl1 : Array (Option Value)} {oc1 kV1 dc1 pm1 cd1 ct1 : Value} {f_grown_parts_ : Addr} {od2 an2 : Option Addr} {sl2 : Array (Option Value)} {oc2 kV2 dc2 pm2 cd2 ct2 : Value} {f_is_by_ : Addr} {od3 an3 : Option Addr} {sl3 : Array (Option Value)} {oc3 kV3 dc3 pm3 cd3 ct3 : Value} {f_is_cover_ : Addr} {od4 an4 : Option Addr} {sl4 : Array (Option Value)} {oc4 kV4 dc4 pm4 cd4 ct4 : Value} {f_taken_ : Addr} {od5 an5 : Option Addr} {sl5 : Array (Option Value)} {oc5 kV5 dc5 pm5 cd5 ct5 : Value} {f_look_houses_ : Addr} {od6 an6 : Option Addr} {sl6 : Array (Option Value)} {oc6 kV6 dc6 pm6 cd6 ct6 : Value} {f_Table___init___ : Addr} {od7 an7 : Option Addr} {sl7 : Array (Option Value)} {oc7 kV7 dc7 pm7 cd7 ct7 : Value} {f_Table_mosts_ : Addr} {od8 an8 : Option Addr} {sl8 : Array (Option Value)} {oc8 kV8 dc8 pm8 cd8 ct8 : Value} {f_Table_loads_ : Addr} {od9 an9 : Option Addr} {sl9 : Array (Option Value)} {oc9 kV9 dc9 pm9 cd9 ct9 : Value} {f_Table_passed_ : Addr} {od10 an10 : Option Addr} {sl10 : Array (Option Value)} {oc10 kV10 dc10 pm10 cd10 ct10 : Value} {f_look_account_ : Addr} {od11 an11 : Option Addr} {sl11 : Array (Option Value)} {oc11 kV11 dc11 pm11 cd11 ct11 : Value} {f_burdens_ : Addr} {od12 an12 : Option Addr} {sl12 : Array (Option Value)} {oc12 kV12 dc12 pm12 cd12 ct12 : Value} {f_asked_ : Addr} {od13 an13 : Option Addr} {sl13 : Array (Option Value)} {oc13 kV13 dc13 pm13 cd13 ct13 : Value} {f_settled_ : Addr} {od14 an14 : Option Addr} {sl14 : Array (Option Value)} {oc14 kV14 dc14 pm14 cd14 ct14 : Value} {f_shows_ : Addr} {od15 an15 : Option Addr} {sl15 : Array (Option Value)} {oc15 kV15 dc15 pm15 cd15 ct15 : Value} {f_agrees_ : Addr} {od16 an16 : Option Addr} {sl16 : Array (Option Value)} {oc16 kV16 dc16 pm16 cd16 ct16 : Value} {f_lies_below_ : Addr} {od17 an17 : Option Addr} {sl17 : Array (Option Value)} {oc17 kV17 dc17 pm17 cd17 ct17 : Value} {f_backed_ : Addr} {od18 an18 : Option Addr} {sl18 : Array (Option Value)} {oc18 kV18 dc18 pm18 cd18 ct18 : Value} {f_enough_ : Addr} {od19 an19 : Option Addr} {sl19 : Array (Option Value)} {oc19 kV19 dc19 pm19 cd19 ct19 : Value} {f_above_ : Addr} {od20 an20 : Option Addr} {sl20 : Array (Option Value)} {oc20 kV20 dc20 pm20 cd20 ct20 : Value} {f_below_ : Addr} {od21 an21 : Option Addr} {sl21 : Array (Option Value)} {oc21 kV21 dc21 pm21 cd21 ct21 : Value} {f_look_both_ : Addr} {od22 an22 : Option Addr} {sl22 : Array (Option Value)} {oc22 kV22 dc22 pm22 cd22 ct22 : Value} {f_joint_ : Addr} {od23 an23 : Option Addr} {sl23 : Array (Option Value)} {oc23 kV23 dc23 pm23 cd23 ct23 : Value} {f_meeting_ : Addr} {od24 an24 : Option Addr} {sl24 : Array (Option Value)} {oc24 kV24 dc24 pm24 cd24 ct24 : Value} {f_kept_ : Addr} {od25 an25 : Option Addr} {sl25 : Array (Option Value)} {oc25 kV25 dc25 pm25 cd25 ct25 : Value} {f_law_draws_ : Addr} {od26 an26 : Option Addr} {sl26 : Array (Option Value)} {oc26 kV26 dc26 pm26 cd26 ct26 : Value} {f_law_due_ : Addr} {od27 an27 : Option Addr} {sl27 : Array (Option Value)} {oc27 kV27 dc27 pm27 cd27 ct27 : Value} {f_law_seen_ : Addr} {od28 an28 : Option Addr} {sl28 : Array (Option Value)} {oc28 kV28 dc28 pm28 cd28 ct28 : Value} {f_law_lines_ : Addr} {od29 an29 : Option Addr} {sl29 : Array (Option Value)} {oc29 kV29 dc29 pm29 cd29 ct29 : Value} {f_law_cover_ : Addr} {od30 an30 : Option Addr} {sl30 : Array (Option Value)} {oc30 kV30 dc30 pm30 cd30 ct30 : Value} {f_law_rows_ : Addr} {od31 an31 : Option Addr} {sl31 : Array (Option Value)} {oc31 kV31 dc31 pm31 cd31 ct31 : Value} {f_law_losses_ : Addr} {od32 an32 : Option Addr} {sl32 : Array (Option Value)} {oc32 kV32 dc32 pm32 cd32 ct32 : Value} {f_law_made_ : Addr} {od33 an33 : Option Addr} {sl33 : Array (Option Value)} {oc33 kV33 dc33 pm33 cd33 ct33 : Value} {f_law_split_ : Addr} {od34 an34 : Option Addr} {sl34 : Array (Option Value)} {oc34 kV34 dc34 pm34 cd34 ct34 : Value} {f_law_splits_ : Addr} {od35 an35 : Option Addr} {sl35 : Array (Option Value)} {oc35 kV35 dc35 pm35 cd35 ct35 : Value} {f_law_loads_ : Addr} {od36 an36 : Option Addr} {sl36 : Array (Option Value)} {oc36 kV36 dc36 pm36 cd36 ct36 : Value} {f_law_take_ : Addr} {od37 an37 : Option Addr} {sl37 : Array (Option Value)} {oc37 kV37 dc37 pm37 cd37 ct37 : Value} {f_law_passed_ : Addr} {od38 an38 : Option Addr} {sl38 : Array (Option Value)} {oc38 kV38 dc38 pm38 cd38 ct38 : Value} {f_law_come_ : Addr} {od39 an39 : Option Addr} {sl39 : Array (Option Value)} {oc39 kV39 dc39 pm39 cd39 ct39 : Value} {f_law_below_ : Addr} {od40 an40 : Option Addr} {sl40 : Array (Option Value)} {oc40 kV40 dc40 pm40 cd40 ct40 : Value} {f_law_account_ : Addr} {od41 an41 : Option Addr} {sl41 : Array (Option Value)} {oc41 kV41 dc41 pm41 cd41 ct41 : Value} {f_law_least_ : Addr} {od42 an42 : Option Addr} {sl42 : Array (Option Value)} {oc42 kV42 dc42 pm42 cd42 ct42 : Value} {f_law_door_ : Addr} {od43 an43 : Option Addr} {sl43 : Array (Option Value)} {oc43 kV43 dc43 pm43 cd43 ct43 : Value} {f_law_spoilt_ : Addr} {od44 an44 : Option Addr} {sl44 : Array (Option Value)} {oc44 kV44 dc44 pm44 cd44 ct44 : Value} {f_law_ : Addr} {od45 an45 : Option Addr} {sl45 : Array (Option Value)} {oc45 kV45 dc45 pm45 cd45 ct45 : Value} (X : K.In h) (G : h.Ns mainGlobals mg) (hfa : mg "law" = some (.ref fa))
  (zb_ValueError : PySem.W.nsIn K mainGlobals "ValueError" = some none)
  (zb_isinstance : PySem.W.nsIn K mainGlobals "isinstance" = some none)
  (zb_len : PySem.W.nsIn K mainGlobals "len" = some none)
  (zb_list : PySem.W.nsIn K mainGlobals "list" = some none)
  (zb_max : PySem.W.nsIn K mainGlobals "max" = some none)
  (zb_min : PySem.W.nsIn K mainGlobals "min" = some none)
  (zb_range : PySem.W.nsIn K mainGlobals "range" = some none)
  (zb_tuple : PySem.W.nsIn K mainGlobals "tuple" = some none)
  (zc_MOST_SIGNERS : PySem.W.nsIn K mainGlobals "MOST_SIGNERS" = some (some (.int 4 tk_MOST_SIGNERS)))
  (zc_MOST_HOUSES : PySem.W.nsIn K mainGlobals "MOST_HOUSES" = some (some (.int 6 tk_MOST_HOUSES)))
  (zc_MOST_LINE : PySem.W.nsIn K mainGlobals "MOST_LINE" = some (some (.int 20 tk_MOST_LINE)))
  (zc_MOST_POINT : PySem.W.nsIn K mainGlobals "MOST_POINT" = some (some (.int 200 tk_MOST_POINT)))
  (zc_MOST : PySem.W.nsIn K mainGlobals "MOST" = some (some (.int 24 tk_MOST)))
  (zg_BadHouses : PySem.W.nsIn K mainGlobals "BadHouses" = some (some (.ref C_BadHouses)))
  (zx_BadHouses : PySem.W.excIn K C_BadHouses [.type "ValueError", .type "Exception", .type "BaseException", .type "object"] "ValueError.__new__" = true)
  (zk_BadHouses : PySem.W.keepIn K (.ref C_BadHouses) = true)
  (zs_BadHouses : PySem.W.subIn K (.ref C_BadHouses) (.type "BaseException") = some true)
  (zt_BadHouses : PySem.W.typeIn K (.ref C_BadHouses) = some (.type "type"))
  (zc_MOST_COVERS : PySem.W.nsIn K mainGlobals "MOST_COVERS" = some (some (.int 10 tk_MOST_COVERS)))
  (zg_BadCover : PySem.W.nsIn K mainGlobals "BadCover" = some (some (.ref C_BadCover)))
  (zx_BadCover : PySem.W.excIn K C_BadCover [.type "ValueError", .type "Exception", .type "BaseException", .type "object"] "ValueError.__new__" = true)
  (zk_BadCover : PySem.W.keepIn K (.ref C_BadCover) = true)
  (zs_BadCover : PySem.W.subIn K (.ref C_BadCover) (.type "BaseException") = some true)
  (zt_BadCover : PySem.W.typeIn K (.ref C_BadCover) = some (.type "type"))
  (zg_BadLosses : PySem.W.nsIn K mainGlobals "BadLosses" = some (some (.ref C_BadLosses)))
  (zx_BadLosses : PySem.W.excIn K C_BadLosses [.type "ValueError", .type "Exception", .type "BaseException", .type "object"] "ValueError.__new__" = true)
  (zk_BadLosses : PySem.W.keepIn K (.ref C_BadLosses) = true)
  (zs_BadLosses : PySem.W.subIn K (.ref C_BadLosses) (.type "BaseException") = some true)
  (zt_BadLosses : PySem.W.typeIn K (.ref C_BadLosses) = some (.type "type"))
  (zc_MOST_LOSS : PySem.W.nsIn K mainGlobals "MOST_LOSS" = some (some (.int 9999 tk_MOST_LOSS)))
  (zg_BadAccount : PySem.W.nsIn K mainGlobals "BadAccount" = some (some (.ref C_BadAccount)))
  (zx_BadAccount : PySem.W.excIn K C_BadAccount [.type "ValueError", .type "Exception", .type "BaseException", .type "object"] "ValueError.__new__" = true)
  (zk_BadAccount : PySem.W.keepIn K (.ref C_BadAccount) = true)
  (zs_BadAccount : PySem.W.subIn K (.ref C_BadAccount) (.type "BaseException") = some true)
  (zt_BadAccount : PySem.W.typeIn K (.ref C_BadAccount) = some (.type "type"))
  (zg_Unbacked : PySem.W.nsIn K mainGlobals "Unbacked" = some (some (.ref C_Unbacked)))
  (zx_Unbacked : PySem.W.excIn K C_Unbacked [.type "ValueError", .type "Exception", .type "BaseException", .type "object"] "ValueError.__new__" = true)
  (zk_Unbacked : PySem.W.keepIn K (.ref C_Unbacked) = true)
  (zs_Unbacked : PySem.W.subIn K (.ref C_Unbacked) (.type "BaseException") = some true)
  (zt_Unbacked : PySem.W.typeIn K (.ref C_Unbacked) = some (.type "type"))
  (zg_Short : PySem.W.nsIn K mainGlobals "Short" = some (some (.ref C_Short)))
  (zx_Short : PySem.W.excIn K C_Short [.type "ValueError", .type "Exception", .type "BaseException", .type "object"] "ValueError.__new__" = true)
  (zk_Short : PySem.W.keepIn K (.ref C_Short) = true)
  (zs_Short : PySem.W.subIn K (.ref C_Short) (.type "BaseException") = some true)
  (zt_Short : PySem.W.typeIn K (.ref C_Short) = some (.type "type"))
  (zg_Disagrees : PySem.W.nsIn K mainGlobals "Disagrees" = some (some (.ref C_Disagrees)))
  (zx_Disagrees : PySem.W.excIn K C_Disagrees [.type "ValueError", .type "Exception", .type "BaseException", .type "object"] "ValueError.__new__" = true)
  (zk_Disagrees : PySem.W.keepIn K (.ref C_Disagrees) = true)
  (zs_Disagrees : PySem.W.subIn K (.ref C_Disagrees) (.type "BaseException") = some true)
  (zt_Disagrees : PySem.W.typeIn K (.ref C_Disagrees) = some (.type "type"))
  (zg_BadLines : PySem.W.nsIn K mainGlobals "BadLines" = some (some (.ref C_BadLines)))
  (zg_BadCrowns : PySem.W.nsIn K mainGlobals "BadCrowns" = some (some (.ref C_BadCrowns)))
  (zg_NoHouse : PySem.W.nsIn K mainGlobals "NoHouse" = some (some (.ref C_NoHouse)))
  (zg_BadDay : PySem.W.nsIn K mainGlobals "BadDay" = some (some (.ref C_BadDay)))
  (zg_NoLoss : PySem.W.nsIn K mainGlobals "NoLoss" = some (some (.ref C_NoLoss)))
  (zg_NoHappening : PySem.W.nsIn K mainGlobals "NoHappening" = some (some (.ref C_NoHappening)))
  (zg_NoCover : PySem.W.nsIn K mainGlobals "NoCover" = some (some (.ref C_NoCover)))
  (zg_Full : PySem.W.nsIn K mainGlobals "Full" = some (some (.ref C_Full)))
  (zg_Same : PySem.W.nsIn K mainGlobals "Same" = some (some (.ref C_Same)))
  (zg_Endless : PySem.W.nsIn K mainGlobals "Endless" = some (some (.ref C_Endless)))
  (zg_BadTerms : PySem.W.nsIn K mainGlobals "BadTerms" = some (some (.ref C_BadTerms)))
  (zg_BadText : PySem.W.nsIn K mainGlobals "BadText" = some (some (.ref C_BadText)))
  (zg_Nothing : PySem.W.nsIn K mainGlobals "Nothing" = some (some (.ref C_Nothing)))
  (zg_BadDeed : PySem.W.nsIn K mainGlobals "BadDeed" = some (some (.ref C_BadDeed)))
  (zg_RingError : PySem.W.nsIn K mainGlobals "RingError" = some (some (.ref C_RingError)))
  (e_sp : PySem.W.specialIn K (.builtin "object.__class__") "__get__" = some (some (.builtin "getset_descriptor.__get__")))
  (e_tk : PySem.W.takesIn K (.builtin "object.__class__") = some true)
  (e1_BadHouses : PySem.W.findIn K (.ref C_BadHouses) "__getattribute__" = some (some (.builtin "BaseException.__getattribute__")))
  (e2_BadHouses : PySem.W.findIn K (.ref C_BadHouses) "__getattr__" = some none)
  (e3_BadHouses : PySem.W.hasDictIn K C_BadHouses = true)
  (e4_BadHouses : PySem.W.findIn K (.ref C_BadHouses) "__class__" = some (some (.builtin "object.__class__")))
  (e5_BadHouses : PySem.W.mroIn K C_BadHouses (.type "object") = some true)
  (kt_BadHouses_ValueError : PySem.W.kitOne K (.ref C_BadHouses) (.type "ValueError") = some true)
  (kt_BadHouses_BadHouses : PySem.W.kitOne K (.ref C_BadHouses) (.ref C_BadHouses) = some true)
  (kt_BadHouses_BadLines : PySem.W.kitOne K (.ref C_BadHouses) (.ref C_BadLines) = some false)
  (kt_BadHouses_BadCover : PySem.W.kitOne K (.ref C_BadHouses) (.ref C_BadCover) = some false)
  (kt_BadHouses_BadCrowns : PySem.W.kitOne K (.ref C_BadHouses) (.ref C_BadCrowns) = some false)
  (kt_BadHouses_BadLosses : PySem.W.kitOne K (.ref C_BadHouses) (.ref C_BadLosses) = some false)
  (kt_BadHouses_BadAccount : PySem.W.kitOne K (.ref C_BadHouses) (.ref C_BadAccount) = some false)
  (kt_BadHouses_Unbacked : PySem.W.kitOne K (.ref C_BadHouses) (.ref C_Unbacked) = some false)
  (kt_BadHouses_Short : PySem.W.kitOne K (.ref C_BadHouses) (.ref C_Short) = some false)
  (kt_BadHouses_Disagrees : PySem.W.kitOne K (.ref C_BadHouses) (.ref C_Disagrees) = some false)
  (kt_BadHouses_NoHouse : PySem.W.kitOne K (.ref C_BadHouses) (.ref C_NoHouse) = some false)
  (kt_BadHouses_NoCover : PySem.W.kitOne K (.ref C_BadHouses) (.ref C_NoCover) = some false)
  (kt_BadHouses_NoHappening : PySem.W.kitOne K (.ref C_BadHouses) (.ref C_NoHappening) = some false)
  (kt_BadHouses_NoLoss : PySem.W.kitOne K (.ref C_BadHouses) (.ref C_NoLoss) = some false)
  (kt_BadHouses_BadDay : PySem.W.kitOne K (.ref C_BadHouses) (.ref C_BadDay) = some false)
  (kt_BadHouses_BadTerms : PySem.W.kitOne K (.ref C_BadHouses) (.ref C_BadTerms) = some false)
  (kt_BadHouses_Endless : PySem.W.kitOne K (.ref C_BadHouses) (.ref C_Endless) = some false)
  (kt_BadHouses_Same : PySem.W.kitOne K (.ref C_BadHouses) (.ref C_Same) = some false)
  (kt_BadHouses_Full : PySem.W.kitOne K (.ref C_BadHouses) (.ref C_Full) = some false)
  (kt_BadHouses_BadDeed : PySem.W.kitOne K (.ref C_BadHouses) (.ref C_BadDeed) = some false)
  (kt_BadHouses_Nothing : PySem.W.kitOne K (.ref C_BadHouses) (.ref C_Nothing) = some false)
  (kt_BadHouses_BadText : PySem.W.kitOne K (.ref C_BadHouses) (.ref C_BadText) = some false)
  (es_BadHouses_RingError : PySem.W.subIn K (.ref C_BadHouses) (.ref C_RingError) = some true)
  (e1_BadCover : PySem.W.findIn K (.ref C_BadCover) "__getattribute__" = some (some (.builtin "BaseException.__getattribute__")))
  (e2_BadCover : PySem.W.findIn K (.ref C_BadCover) "__getattr__" = some none)
  (e3_BadCover : PySem.W.hasDictIn K C_BadCover = true)
  (e4_BadCover : PySem.W.findIn K (.ref C_BadCover) "__class__" = some (some (.builtin "object.__class__")))
  (e5_BadCover : PySem.W.mroIn K C_BadCover (.type "object") = some true)
  (kt_BadCover_ValueError : PySem.W.kitOne K (.ref C_BadCover) (.type "ValueError") = some true)
  (kt_BadCover_BadHouses : PySem.W.kitOne K (.ref C_BadCover) (.ref C_BadHouses) = some false)
  (kt_BadCover_BadLines : PySem.W.kitOne K (.ref C_BadCover) (.ref C_BadLines) = some false)
  (kt_BadCover_BadCover : PySem.W.kitOne K (.ref C_BadCover) (.ref C_BadCover) = some true)
  (kt_BadCover_BadCrowns : PySem.W.kitOne K (.ref C_BadCover) (.ref C_BadCrowns) = some false)
  (kt_BadCover_BadLosses : PySem.W.kitOne K (.ref C_BadCover) (.ref C_BadLosses) = some false)
  (kt_BadCover_BadAccount : PySem.W.kitOne K (.ref C_BadCover) (.ref C_BadAccount) = some false)
  (kt_BadCover_Unbacked : PySem.W.kitOne K (.ref C_BadCover) (.ref C_Unbacked) = some false)
  (kt_BadCover_Short : PySem.W.kitOne K (.ref C_BadCover) (.ref C_Short) = some false)
  (kt_BadCover_Disagrees : PySem.W.kitOne K (.ref C_BadCover) (.ref C_Disagrees) = some false)
  (kt_BadCover_NoHouse : PySem.W.kitOne K (.ref C_BadCover) (.ref C_NoHouse) = some false)
  (kt_BadCover_NoCover : PySem.W.kitOne K (.ref C_BadCover) (.ref C_NoCover) = some false)
  (kt_BadCover_NoHappening : PySem.W.kitOne K (.ref C_BadCover) (.ref C_NoHappening) = some false)
  (kt_BadCover_NoLoss : PySem.W.kitOne K (.ref C_BadCover) (.ref C_NoLoss) = some false)
  (kt_BadCover_BadDay : PySem.W.kitOne K (.ref C_BadCover) (.ref C_BadDay) = some false)
  (kt_BadCover_BadTerms : PySem.W.kitOne K (.ref C_BadCover) (.ref C_BadTerms) = some false)
  (kt_BadCover_Endless : PySem.W.kitOne K (.ref C_BadCover) (.ref C_Endless) = some false)
  (kt_BadCover_Same : PySem.W.kitOne K (.ref C_BadCover) (.ref C_Same) = some false)
  (kt_BadCover_Full : PySem.W.kitOne K (.ref C_BadCover) (.ref C_Full) = some false)
  (kt_BadCover_BadDeed : PySem.W.kitOne K (.ref C_BadCover) (.ref C_BadDeed) = some false)
  (kt_BadCover_Nothing : PySem.W.kitOne K (.ref C_BadCover) (.ref C_Nothing) = some false)
  (kt_BadCover_BadText : PySem.W.kitOne K (.ref C_BadCover) (.ref C_BadText) = some false)
  (es_BadCover_RingError : PySem.W.subIn K (.ref C_BadCover) (.ref C_RingError) = some true)
  (e1_BadLosses : PySem.W.findIn K (.ref C_BadLosses) "__getattribute__" = some (some (.builtin "BaseException.__getattribute__")))
  (e2_BadLosses : PySem.W.findIn K (.ref C_BadLosses) "__getattr__" = some none)
  (e3_BadLosses : PySem.W.hasDictIn K C_BadLosses = true)
  (e4_BadLosses : PySem.W.findIn K (.ref C_BadLosses) "__class__" = some (some (.builtin "object.__class__")))
  (e5_BadLosses : PySem.W.mroIn K C_BadLosses (.type "object") = some true)
  (kt_BadLosses_ValueError : PySem.W.kitOne K (.ref C_BadLosses) (.type "ValueError") = some true)
  (kt_BadLosses_BadHouses : PySem.W.kitOne K (.ref C_BadLosses) (.ref C_BadHouses) = some false)
  (kt_BadLosses_BadLines : PySem.W.kitOne K (.ref C_BadLosses) (.ref C_BadLines) = some false)
  (kt_BadLosses_BadCover : PySem.W.kitOne K (.ref C_BadLosses) (.ref C_BadCover) = some false)
  (kt_BadLosses_BadCrowns : PySem.W.kitOne K (.ref C_BadLosses) (.ref C_BadCrowns) = some false)
  (kt_BadLosses_BadLosses : PySem.W.kitOne K (.ref C_BadLosses) (.ref C_BadLosses) = some true)
  (kt_BadLosses_BadAccount : PySem.W.kitOne K (.ref C_BadLosses) (.ref C_BadAccount) = some false)
  (kt_BadLosses_Unbacked : PySem.W.kitOne K (.ref C_BadLosses) (.ref C_Unbacked) = some false)
  (kt_BadLosses_Short : PySem.W.kitOne K (.ref C_BadLosses) (.ref C_Short) = some false)
  (kt_BadLosses_Disagrees : PySem.W.kitOne K (.ref C_BadLosses) (.ref C_Disagrees) = some false)
  (kt_BadLosses_NoHouse : PySem.W.kitOne K (.ref C_BadLosses) (.ref C_NoHouse) = some false)
  (kt_BadLosses_NoCover : PySem.W.kitOne K (.ref C_BadLosses) (.ref C_NoCover) = some false)
  (kt_BadLosses_NoHappening : PySem.W.kitOne K (.ref C_BadLosses) (.ref C_NoHappening) = some false)
  (kt_BadLosses_NoLoss : PySem.W.kitOne K (.ref C_BadLosses) (.ref C_NoLoss) = some false)
  (kt_BadLosses_BadDay : PySem.W.kitOne K (.ref C_BadLosses) (.ref C_BadDay) = some false)
  (kt_BadLosses_BadTerms : PySem.W.kitOne K (.ref C_BadLosses) (.ref C_BadTerms) = some false)
  (kt_BadLosses_Endless : PySem.W.kitOne K (.ref C_BadLosses) (.ref C_Endless) = some false)
  (kt_BadLosses_Same : PySem.W.kitOne K (.ref C_BadLosses) (.ref C_Same) = some false)
  (kt_BadLosses_Full : PySem.W.kitOne K (.ref C_BadLosses) (.ref C_Full) = some false)
  (kt_BadLosses_BadDeed : PySem.W.kitOne K (.ref C_BadLosses) (.ref C_BadDeed) = some false)
  (kt_BadLosses_Nothing : PySem.W.kitOne K (.ref C_BadLosses) (.ref C_Nothing) = some false)
  (kt_BadLosses_BadText : PySem.W.kitOne K (.ref C_BadLosses) (.ref C_BadText) = some false)
  (es_BadLosses_RingError : PySem.W.subIn K (.ref C_BadLosses) (.ref C_RingError) = some true)
  (e1_BadAccount : PySem.W.findIn K (.ref C_BadAccount) "__getattribute__" = some (some (.builtin "BaseException.__getattribute__")))
  (e2_BadAccount : PySem.W.findIn K (.ref C_BadAccount) "__getattr__" = some none)
  (e3_BadAccount : PySem.W.hasDictIn K C_BadAccount = true)
  (e4_BadAccount : PySem.W.findIn K (.ref C_BadAccount) "__class__" = some (some (.builtin "object.__class__")))
  (e5_BadAccount : PySem.W.mroIn K C_BadAccount (.type "object") = some true)
  (kt_BadAccount_ValueError : PySem.W.kitOne K (.ref C_BadAccount) (.type "ValueError") = some true)
  (kt_BadAccount_BadHouses : PySem.W.kitOne K (.ref C_BadAccount) (.ref C_BadHouses) = some false)
  (kt_BadAccount_BadLines : PySem.W.kitOne K (.ref C_BadAccount) (.ref C_BadLines) = some false)
  (kt_BadAccount_BadCover : PySem.W.kitOne K (.ref C_BadAccount) (.ref C_BadCover) = some false)
  (kt_BadAccount_BadCrowns : PySem.W.kitOne K (.ref C_BadAccount) (.ref C_BadCrowns) = some false)
  (kt_BadAccount_BadLosses : PySem.W.kitOne K (.ref C_BadAccount) (.ref C_BadLosses) = some false)
  (kt_BadAccount_BadAccount : PySem.W.kitOne K (.ref C_BadAccount) (.ref C_BadAccount) = some true)
  (kt_BadAccount_Unbacked : PySem.W.kitOne K (.ref C_BadAccount) (.ref C_Unbacked) = some false)
  (kt_BadAccount_Short : PySem.W.kitOne K (.ref C_BadAccount) (.ref C_Short) = some false)
  (kt_BadAccount_Disagrees : PySem.W.kitOne K (.ref C_BadAccount) (.ref C_Disagrees) = some false)
  (kt_BadAccount_NoHouse : PySem.W.kitOne K (.ref C_BadAccount) (.ref C_NoHouse) = some false)
  (kt_BadAccount_NoCover : PySem.W.kitOne K (.ref C_BadAccount) (.ref C_NoCover) = some false)
  (kt_BadAccount_NoHappening : PySem.W.kitOne K (.ref C_BadAccount) (.ref C_NoHappening) = some false)
  (kt_BadAccount_NoLoss : PySem.W.kitOne K (.ref C_BadAccount) (.ref C_NoLoss) = some false)
  (kt_BadAccount_BadDay : PySem.W.kitOne K (.ref C_BadAccount) (.ref C_BadDay) = some false)
  (kt_BadAccount_BadTerms : PySem.W.kitOne K (.ref C_BadAccount) (.ref C_BadTerms) = some false)
  (kt_BadAccount_Endless : PySem.W.kitOne K (.ref C_BadAccount) (.ref C_Endless) = some false)
  (kt_BadAccount_Same : PySem.W.kitOne K (.ref C_BadAccount) (.ref C_Same) = some false)
  (kt_BadAccount_Full : PySem.W.kitOne K (.ref C_BadAccount) (.ref C_Full) = some false)
  (kt_BadAccount_BadDeed : PySem.W.kitOne K (.ref C_BadAccount) (.ref C_BadDeed) = some false)
  (kt_BadAccount_Nothing : PySem.W.kitOne K (.ref C_BadAccount) (.ref C_Nothing) = some false)
  (kt_BadAccount_BadText : PySem.W.kitOne K (.ref C_BadAccount) (.ref C_BadText) = some false)
  (es_BadAccount_RingError : PySem.W.subIn K (.ref C_BadAccount) (.ref C_RingError) = some true)
  (e1_Unbacked : PySem.W.findIn K (.ref C_Unbacked) "__getattribute__" = some (some (.builtin "BaseException.__getattribute__")))
  (e2_Unbacked : PySem.W.findIn K (.ref C_Unbacked) "__getattr__" = some none)
  (e3_Unbacked : PySem.W.hasDictIn K C_Unbacked = true)
  (e4_Unbacked : PySem.W.findIn K (.ref C_Unbacked) "__class__" = some (some (.builtin "object.__class__")))
  (e5_Unbacked : PySem.W.mroIn K C_Unbacked (.type "object") = some true)
  (kt_Unbacked_ValueError : PySem.W.kitOne K (.ref C_Unbacked) (.type "ValueError") = some true)
  (kt_Unbacked_BadHouses : PySem.W.kitOne K (.ref C_Unbacked) (.ref C_BadHouses) = some false)
  (kt_Unbacked_BadLines : PySem.W.kitOne K (.ref C_Unbacked) (.ref C_BadLines) = some false)
  (kt_Unbacked_BadCover : PySem.W.kitOne K (.ref C_Unbacked) (.ref C_BadCover) = some false)
  (kt_Unbacked_BadCrowns : PySem.W.kitOne K (.ref C_Unbacked) (.ref C_BadCrowns) = some false)
  (kt_Unbacked_BadLosses : PySem.W.kitOne K (.ref C_Unbacked) (.ref C_BadLosses) = some false)
  (kt_Unbacked_BadAccount : PySem.W.kitOne K (.ref C_Unbacked) (.ref C_BadAccount) = some false)
  (kt_Unbacked_Unbacked : PySem.W.kitOne K (.ref C_Unbacked) (.ref C_Unbacked) = some true)
  (kt_Unbacked_Short : PySem.W.kitOne K (.ref C_Unbacked) (.ref C_Short) = some false)
  (kt_Unbacked_Disagrees : PySem.W.kitOne K (.ref C_Unbacked) (.ref C_Disagrees) = some false)
  (kt_Unbacked_NoHouse : PySem.W.kitOne K (.ref C_Unbacked) (.ref C_NoHouse) = some false)
  (kt_Unbacked_NoCover : PySem.W.kitOne K (.ref C_Unbacked) (.ref C_NoCover) = some false)
  (kt_Unbacked_NoHappening : PySem.W.kitOne K (.ref C_Unbacked) (.ref C_NoHappening) = some false)
  (kt_Unbacked_NoLoss : PySem.W.kitOne K (.ref C_Unbacked) (.ref C_NoLoss) = some false)
  (kt_Unbacked_BadDay : PySem.W.kitOne K (.ref C_Unbacked) (.ref C_BadDay) = some false)
  (kt_Unbacked_BadTerms : PySem.W.kitOne K (.ref C_Unbacked) (.ref C_BadTerms) = some false)
  (kt_Unbacked_Endless : PySem.W.kitOne K (.ref C_Unbacked) (.ref C_Endless) = some false)
  (kt_Unbacked_Same : PySem.W.kitOne K (.ref C_Unbacked) (.ref C_Same) = some false)
  (kt_Unbacked_Full : PySem.W.kitOne K (.ref C_Unbacked) (.ref C_Full) = some false)
  (kt_Unbacked_BadDeed : PySem.W.kitOne K (.ref C_Unbacked) (.ref C_BadDeed) = some false)
  (kt_Unbacked_Nothing : PySem.W.kitOne K (.ref C_Unbacked) (.ref C_Nothing) = some false)
  (kt_Unbacked_BadText : PySem.W.kitOne K (.ref C_Unbacked) (.ref C_BadText) = some false)
  (es_Unbacked_RingError : PySem.W.subIn K (.ref C_Unbacked) (.ref C_RingError) = some true)
  (e1_Short : PySem.W.findIn K (.ref C_Short) "__getattribute__" = some (some (.builtin "BaseException.__getattribute__")))
  (e2_Short : PySem.W.findIn K (.ref C_Short) "__getattr__" = some none)
  (e3_Short : PySem.W.hasDictIn K C_Short = true)
  (e4_Short : PySem.W.findIn K (.ref C_Short) "__class__" = some (some (.builtin "object.__class__")))
  (e5_Short : PySem.W.mroIn K C_Short (.type "object") = some true)
  (kt_Short_ValueError : PySem.W.kitOne K (.ref C_Short) (.type "ValueError") = some true)
  (kt_Short_BadHouses : PySem.W.kitOne K (.ref C_Short) (.ref C_BadHouses) = some false)
  (kt_Short_BadLines : PySem.W.kitOne K (.ref C_Short) (.ref C_BadLines) = some false)
  (kt_Short_BadCover : PySem.W.kitOne K (.ref C_Short) (.ref C_BadCover) = some false)
  (kt_Short_BadCrowns : PySem.W.kitOne K (.ref C_Short) (.ref C_BadCrowns) = some false)
  (kt_Short_BadLosses : PySem.W.kitOne K (.ref C_Short) (.ref C_BadLosses) = some false)
  (kt_Short_BadAccount : PySem.W.kitOne K (.ref C_Short) (.ref C_BadAccount) = some false)
  (kt_Short_Unbacked : PySem.W.kitOne K (.ref C_Short) (.ref C_Unbacked) = some false)
  (kt_Short_Short : PySem.W.kitOne K (.ref C_Short) (.ref C_Short) = some true)
  (kt_Short_Disagrees : PySem.W.kitOne K (.ref C_Short) (.ref C_Disagrees) = some false)
  (kt_Short_NoHouse : PySem.W.kitOne K (.ref C_Short) (.ref C_NoHouse) = some false)
  (kt_Short_NoCover : PySem.W.kitOne K (.ref C_Short) (.ref C_NoCover) = some false)
  (kt_Short_NoHappening : PySem.W.kitOne K (.ref C_Short) (.ref C_NoHappening) = some false)
  (kt_Short_NoLoss : PySem.W.kitOne K (.ref C_Short) (.ref C_NoLoss) = some false)
  (kt_Short_BadDay : PySem.W.kitOne K (.ref C_Short) (.ref C_BadDay) = some false)
  (kt_Short_BadTerms : PySem.W.kitOne K (.ref C_Short) (.ref C_BadTerms) = some false)
  (kt_Short_Endless : PySem.W.kitOne K (.ref C_Short) (.ref C_Endless) = some false)
  (kt_Short_Same : PySem.W.kitOne K (.ref C_Short) (.ref C_Same) = some false)
  (kt_Short_Full : PySem.W.kitOne K (.ref C_Short) (.ref C_Full) = some false)
  (kt_Short_BadDeed : PySem.W.kitOne K (.ref C_Short) (.ref C_BadDeed) = some false)
  (kt_Short_Nothing : PySem.W.kitOne K (.ref C_Short) (.ref C_Nothing) = some false)
  (kt_Short_BadText : PySem.W.kitOne K (.ref C_Short) (.ref C_BadText) = some false)
  (es_Short_RingError : PySem.W.subIn K (.ref C_Short) (.ref C_RingError) = some true)
  (e1_Disagrees : PySem.W.findIn K (.ref C_Disagrees) "__getattribute__" = some (some (.builtin "BaseException.__getattribute__")))
  (e2_Disagrees : PySem.W.findIn K (.ref C_Disagrees) "__getattr__" = some none)
  (e3_Disagrees : PySem.W.hasDictIn K C_Disagrees = true)
  (e4_Disagrees : PySem.W.findIn K (.ref C_Disagrees) "__class__" = some (some (.builtin "object.__class__")))
  (e5_Disagrees : PySem.W.mroIn K C_Disagrees (.type "object") = some true)
  (kt_Disagrees_ValueError : PySem.W.kitOne K (.ref C_Disagrees) (.type "ValueError") = some true)
  (kt_Disagrees_BadHouses : PySem.W.kitOne K (.ref C_Disagrees) (.ref C_BadHouses) = some false)
  (kt_Disagrees_BadLines : PySem.W.kitOne K (.ref C_Disagrees) (.ref C_BadLines) = some false)
  (kt_Disagrees_BadCover : PySem.W.kitOne K (.ref C_Disagrees) (.ref C_BadCover) = some false)
  (kt_Disagrees_BadCrowns : PySem.W.kitOne K (.ref C_Disagrees) (.ref C_BadCrowns) = some false)
  (kt_Disagrees_BadLosses : PySem.W.kitOne K (.ref C_Disagrees) (.ref C_BadLosses) = some false)
  (kt_Disagrees_BadAccount : PySem.W.kitOne K (.ref C_Disagrees) (.ref C_BadAccount) = some false)
  (kt_Disagrees_Unbacked : PySem.W.kitOne K (.ref C_Disagrees) (.ref C_Unbacked) = some false)
  (kt_Disagrees_Short : PySem.W.kitOne K (.ref C_Disagrees) (.ref C_Short) = some false)
  (kt_Disagrees_Disagrees : PySem.W.kitOne K (.ref C_Disagrees) (.ref C_Disagrees) = some true)
  (kt_Disagrees_NoHouse : PySem.W.kitOne K (.ref C_Disagrees) (.ref C_NoHouse) = some false)
  (kt_Disagrees_NoCover : PySem.W.kitOne K (.ref C_Disagrees) (.ref C_NoCover) = some false)
  (kt_Disagrees_NoHappening : PySem.W.kitOne K (.ref C_Disagrees) (.ref C_NoHappening) = some false)
  (kt_Disagrees_NoLoss : PySem.W.kitOne K (.ref C_Disagrees) (.ref C_NoLoss) = some false)
  (kt_Disagrees_BadDay : PySem.W.kitOne K (.ref C_Disagrees) (.ref C_BadDay) = some false)
  (kt_Disagrees_BadTerms : PySem.W.kitOne K (.ref C_Disagrees) (.ref C_BadTerms) = some false)
  (kt_Disagrees_Endless : PySem.W.kitOne K (.ref C_Disagrees) (.ref C_Endless) = some false)
  (kt_Disagrees_Same : PySem.W.kitOne K (.ref C_Disagrees) (.ref C_Same) = some false)
  (kt_Disagrees_Full : PySem.W.kitOne K (.ref C_Disagrees) (.ref C_Full) = some false)
  (kt_Disagrees_BadDeed : PySem.W.kitOne K (.ref C_Disagrees) (.ref C_BadDeed) = some false)
  (kt_Disagrees_Nothing : PySem.W.kitOne K (.ref C_Disagrees) (.ref C_Nothing) = some false)
  (kt_Disagrees_BadText : PySem.W.kitOne K (.ref C_Disagrees) (.ref C_BadText) = some false)
  (es_Disagrees_RingError : PySem.W.subIn K (.ref C_Disagrees) (.ref C_RingError) = some true)
  (eb_RingError : PySem.W.subIn K (.ref C_RingError) (.type "BaseException") = some true)
  (eh_RingError : PySem.W.hasDictIn K C_RingError = true)
  (ey_RingError : PySem.W.typeIn K (.ref C_RingError) = some (.type "type"))
  (zg_Table : PySem.W.nsIn K mainGlobals "Table" = some (some (.ref C_Table)))
  (pg_Table : PySem.W.plainGet K C_Table Str.empty = true)
  (hd_Table : PySem.W.hasDictIn K C_Table = true)
  (po_Table : PySem.W.plainOver K C_Table = true)
  (sa_Table : PySem.W.findIn K (.ref C_Table) "__setattr__" = some (some (.builtin "object.__setattr__")))
  (mk_Table : PySem.W.makesIn K C_Table = true)
  (kc_Table : PySem.W.keepIn K (.ref C_Table) = true)
  (na_Table_befell : PySem.W.findIn K (.ref C_Table) "befell" = some none)
  (na_Table_rows : PySem.W.findIn K (.ref C_Table) "rows" = some none)
  (na_Table_size : PySem.W.findIn K (.ref C_Table) "size" = some none)
  (na_Table_splits : PySem.W.findIn K (.ref C_Table) "splits" = some none)
  (a0 : PySem.W.nsIn K mainGlobals "are_lines" = some (some (.ref f_are_lines_)))
  (l0 : K.lookup f_are_lines_ = some ⟨oc0, od0, .func (PySem.W.fnOf "are_lines" "are_lines" (defArgs s_are_lines) (defBody s_are_lines) (defScope s_are_lines) .none kV0 dc0 pm0 an0 cd0 ct0), sl0⟩)
  (c0 : PySem.W.codeIn K cd0 "are_lines" = true)
  (k0 : PySem.W.keepIn K (.ref f_are_lines_) = true)
  (a1 : PySem.W.nsIn K mainGlobals "foremost" = some (some (.ref f_foremost_)))
  (l1 : K.lookup f_foremost_ = some ⟨oc1, od1, .func (PySem.W.fnOf "foremost" "foremost" (defArgs s_foremost) (defBody s_foremost) (defScope s_foremost) .none kV1 dc1 pm1 an1 cd1 ct1), sl1⟩)
  (c1 : PySem.W.codeIn K cd1 "foremost" = true)
  (k1 : PySem.W.keepIn K (.ref f_foremost_) = true)
  (a2 : PySem.W.nsIn K mainGlobals "grown_parts" = some (some (.ref f_grown_parts_)))
  (l2 : K.lookup f_grown_parts_ = some ⟨oc2, od2, .func (PySem.W.fnOf "grown_parts" "grown_parts" (defArgs s_grown_parts) (defBody s_grown_parts) (defScope s_grown_parts) .none kV2 dc2 pm2 an2 cd2 ct2), sl2⟩)
  (c2 : PySem.W.codeIn K cd2 "grown_parts" = true)
  (k2 : PySem.W.keepIn K (.ref f_grown_parts_) = true)
  (a3 : PySem.W.nsIn K mainGlobals "is_by" = some (some (.ref f_is_by_)))
  (l3 : K.lookup f_is_by_ = some ⟨oc3, od3, .func (PySem.W.fnOf "is_by" "is_by" (defArgs s_is_by) (defBody s_is_by) (defScope s_is_by) .none kV3 dc3 pm3 an3 cd3 ct3), sl3⟩)
  (c3 : PySem.W.codeIn K cd3 "is_by" = true)
  (k3 : PySem.W.keepIn K (.ref f_is_by_) = true)
  (a4 : PySem.W.nsIn K mainGlobals "is_cover" = some (some (.ref f_is_cover_)))
  (l4 : K.lookup f_is_cover_ = some ⟨oc4, od4, .func (PySem.W.fnOf "is_cover" "is_cover" (defArgs s_is_cover) (defBody s_is_cover) (defScope s_is_cover) .none kV4 dc4 pm4 an4 cd4 ct4), sl4⟩)
  (c4 : PySem.W.codeIn K cd4 "is_cover" = true)
  (k4 : PySem.W.keepIn K (.ref f_is_cover_) = true)
  (a5 : PySem.W.nsIn K mainGlobals "taken" = some (some (.ref f_taken_)))
  (l5 : K.lookup f_taken_ = some ⟨oc5, od5, .func (PySem.W.fnOf "taken" "taken" (defArgs s_taken) (defBody s_taken) (defScope s_taken) .none kV5 dc5 pm5 an5 cd5 ct5), sl5⟩)
  (c5 : PySem.W.codeIn K cd5 "taken" = true)
  (k5 : PySem.W.keepIn K (.ref f_taken_) = true)
  (a6 : PySem.W.nsIn K mainGlobals "look_houses" = some (some (.ref f_look_houses_)))
  (l6 : K.lookup f_look_houses_ = some ⟨oc6, od6, .func (PySem.W.fnOf "look_houses" "look_houses" (defArgs s_look_houses) (defBody s_look_houses) (defScope s_look_houses) .none kV6 dc6 pm6 an6 cd6 ct6), sl6⟩)
  (c6 : PySem.W.codeIn K cd6 "look_houses" = true)
  (k6 : PySem.W.keepIn K (.ref f_look_houses_) = true)
  (a7 : PySem.W.findIn K (.ref C_Table) "__init__" = some (some (.ref f_Table___init___)))
  (i7 : PySem.W.isFn K (.ref f_Table___init___) = true)
  (l7 : K.lookup f_Table___init___ = some ⟨oc7, od7, .func (PySem.W.fnOf "__init__" "Table.__init__" (defArgs s_Table___init__) (defBody s_Table___init__) (defScope s_Table___init__) .none kV7 dc7 pm7 an7 cd7 ct7), sl7⟩)
  (c7 : PySem.W.codeIn K cd7 "Table.__init__" = true)
  (k7 : PySem.W.keepIn K (.ref f_Table___init___) = true)
  (a8 : PySem.W.findIn K (.ref C_Table) "mosts" = some (some (.ref f_Table_mosts_)))
  (i8 : PySem.W.isFn K (.ref f_Table_mosts_) = true)
  (l8 : K.lookup f_Table_mosts_ = some ⟨oc8, od8, .func (PySem.W.fnOf "mosts" "Table.mosts" (defArgs s_Table_mosts) (defBody s_Table_mosts) (defScope s_Table_mosts) .none kV8 dc8 pm8 an8 cd8 ct8), sl8⟩)
  (c8 : PySem.W.codeIn K cd8 "Table.mosts" = true)
  (k8 : PySem.W.keepIn K (.ref f_Table_mosts_) = true)
  (a9 : PySem.W.findIn K (.ref C_Table) "loads" = some (some (.ref f_Table_loads_)))
  (i9 : PySem.W.isFn K (.ref f_Table_loads_) = true)
  (l9 : K.lookup f_Table_loads_ = some ⟨oc9, od9, .func (PySem.W.fnOf "loads" "Table.loads" (defArgs s_Table_loads) (defBody s_Table_loads) (defScope s_Table_loads) .none kV9 dc9 pm9 an9 cd9 ct9), sl9⟩)
  (c9 : PySem.W.codeIn K cd9 "Table.loads" = true)
  (k9 : PySem.W.keepIn K (.ref f_Table_loads_) = true)
  (a10 : PySem.W.findIn K (.ref C_Table) "passed" = some (some (.ref f_Table_passed_)))
  (i10 : PySem.W.isFn K (.ref f_Table_passed_) = true)
  (l10 : K.lookup f_Table_passed_ = some ⟨oc10, od10, .func (PySem.W.fnOf "passed" "Table.passed" (defArgs s_Table_passed) (defBody s_Table_passed) (defScope s_Table_passed) .none kV10 dc10 pm10 an10 cd10 ct10), sl10⟩)
  (c10 : PySem.W.codeIn K cd10 "Table.passed" = true)
  (k10 : PySem.W.keepIn K (.ref f_Table_passed_) = true)
  (a11 : PySem.W.nsIn K mainGlobals "look_account" = some (some (.ref f_look_account_)))
  (l11 : K.lookup f_look_account_ = some ⟨oc11, od11, .func (PySem.W.fnOf "look_account" "look_account" (defArgs s_look_account) (defBody s_look_account) (defScope s_look_account) .none kV11 dc11 pm11 an11 cd11 ct11), sl11⟩)
  (c11 : PySem.W.codeIn K cd11 "look_account" = true)
  (k11 : PySem.W.keepIn K (.ref f_look_account_) = true)
  (a12 : PySem.W.nsIn K mainGlobals "burdens" = some (some (.ref f_burdens_)))
  (l12 : K.lookup f_burdens_ = some ⟨oc12, od12, .func (PySem.W.fnOf "burdens" "burdens" (defArgs s_burdens) (defBody s_burdens) (defScope s_burdens) .none kV12 dc12 pm12 an12 cd12 ct12), sl12⟩)
  (c12 : PySem.W.codeIn K cd12 "burdens" = true)
  (k12 : PySem.W.keepIn K (.ref f_burdens_) = true)
  (a13 : PySem.W.nsIn K mainGlobals "asked" = some (some (.ref f_asked_)))
  (l13 : K.lookup f_asked_ = some ⟨oc13, od13, .func (PySem.W.fnOf "asked" "asked" (defArgs s_asked) (defBody s_asked) (defScope s_asked) .none kV13 dc13 pm13 an13 cd13 ct13), sl13⟩)
  (c13 : PySem.W.codeIn K cd13 "asked" = true)
  (k13 : PySem.W.keepIn K (.ref f_asked_) = true)
  (a14 : PySem.W.nsIn K mainGlobals "settled" = some (some (.ref f_settled_)))
  (l14 : K.lookup f_settled_ = some ⟨oc14, od14, .func (PySem.W.fnOf "settled" "settled" (defArgs s_settled) (defBody s_settled) (defScope s_settled) .none kV14 dc14 pm14 an14 cd14 ct14), sl14⟩)
  (c14 : PySem.W.codeIn K cd14 "settled" = true)
  (k14 : PySem.W.keepIn K (.ref f_settled_) = true)
  (a15 : PySem.W.nsIn K mainGlobals "shows" = some (some (.ref f_shows_)))
  (l15 : K.lookup f_shows_ = some ⟨oc15, od15, .func (PySem.W.fnOf "shows" "shows" (defArgs s_shows) (defBody s_shows) (defScope s_shows) .none kV15 dc15 pm15 an15 cd15 ct15), sl15⟩)
  (c15 : PySem.W.codeIn K cd15 "shows" = true)
  (k15 : PySem.W.keepIn K (.ref f_shows_) = true)
  (a16 : PySem.W.nsIn K mainGlobals "agrees" = some (some (.ref f_agrees_)))
  (l16 : K.lookup f_agrees_ = some ⟨oc16, od16, .func (PySem.W.fnOf "agrees" "agrees" (defArgs s_agrees) (defBody s_agrees) (defScope s_agrees) .none kV16 dc16 pm16 an16 cd16 ct16), sl16⟩)
  (c16 : PySem.W.codeIn K cd16 "agrees" = true)
  (k16 : PySem.W.keepIn K (.ref f_agrees_) = true)
  (a17 : PySem.W.nsIn K mainGlobals "lies_below" = some (some (.ref f_lies_below_)))
  (l17 : K.lookup f_lies_below_ = some ⟨oc17, od17, .func (PySem.W.fnOf "lies_below" "lies_below" (defArgs s_lies_below) (defBody s_lies_below) (defScope s_lies_below) .none kV17 dc17 pm17 an17 cd17 ct17), sl17⟩)
  (c17 : PySem.W.codeIn K cd17 "lies_below" = true)
  (k17 : PySem.W.keepIn K (.ref f_lies_below_) = true)
  (a18 : PySem.W.nsIn K mainGlobals "backed" = some (some (.ref f_backed_)))
  (l18 : K.lookup f_backed_ = some ⟨oc18, od18, .func (PySem.W.fnOf "backed" "backed" (defArgs s_backed) (defBody s_backed) (defScope s_backed) .none kV18 dc18 pm18 an18 cd18 ct18), sl18⟩)
  (c18 : PySem.W.codeIn K cd18 "backed" = true)
  (k18 : PySem.W.keepIn K (.ref f_backed_) = true)
  (a19 : PySem.W.nsIn K mainGlobals "enough" = some (some (.ref f_enough_)))
  (l19 : K.lookup f_enough_ = some ⟨oc19, od19, .func (PySem.W.fnOf "enough" "enough" (defArgs s_enough) (defBody s_enough) (defScope s_enough) .none kV19 dc19 pm19 an19 cd19 ct19), sl19⟩)
  (c19 : PySem.W.codeIn K cd19 "enough" = true)
  (k19 : PySem.W.keepIn K (.ref f_enough_) = true)
  (a20 : PySem.W.nsIn K mainGlobals "above" = some (some (.ref f_above_)))
  (l20 : K.lookup f_above_ = some ⟨oc20, od20, .func (PySem.W.fnOf "above" "above" (defArgs s_above) (defBody s_above) (defScope s_above) .none kV20 dc20 pm20 an20 cd20 ct20), sl20⟩)
  (c20 : PySem.W.codeIn K cd20 "above" = true)
  (k20 : PySem.W.keepIn K (.ref f_above_) = true)
  (a21 : PySem.W.nsIn K mainGlobals "below" = some (some (.ref f_below_)))
  (l21 : K.lookup f_below_ = some ⟨oc21, od21, .func (PySem.W.fnOf "below" "below" (defArgs s_below) (defBody s_below) (defScope s_below) .none kV21 dc21 pm21 an21 cd21 ct21), sl21⟩)
  (c21 : PySem.W.codeIn K cd21 "below" = true)
  (k21 : PySem.W.keepIn K (.ref f_below_) = true)
  (a22 : PySem.W.nsIn K mainGlobals "look_both" = some (some (.ref f_look_both_)))
  (l22 : K.lookup f_look_both_ = some ⟨oc22, od22, .func (PySem.W.fnOf "look_both" "look_both" (defArgs s_look_both) (defBody s_look_both) (defScope s_look_both) .none kV22 dc22 pm22 an22 cd22 ct22), sl22⟩)
  (c22 : PySem.W.codeIn K cd22 "look_both" = true)
  (k22 : PySem.W.keepIn K (.ref f_look_both_) = true)
  (a23 : PySem.W.nsIn K mainGlobals "joint" = some (some (.ref f_joint_)))
  (l23 : K.lookup f_joint_ = some ⟨oc23, od23, .func (PySem.W.fnOf "joint" "joint" (defArgs s_joint) (defBody s_joint) (defScope s_joint) .none kV23 dc23 pm23 an23 cd23 ct23), sl23⟩)
  (c23 : PySem.W.codeIn K cd23 "joint" = true)
  (k23 : PySem.W.keepIn K (.ref f_joint_) = true)
  (a24 : PySem.W.nsIn K mainGlobals "meeting" = some (some (.ref f_meeting_)))
  (l24 : K.lookup f_meeting_ = some ⟨oc24, od24, .func (PySem.W.fnOf "meeting" "meeting" (defArgs s_meeting) (defBody s_meeting) (defScope s_meeting) .none kV24 dc24 pm24 an24 cd24 ct24), sl24⟩)
  (c24 : PySem.W.codeIn K cd24 "meeting" = true)
  (k24 : PySem.W.keepIn K (.ref f_meeting_) = true)
  (a25 : PySem.W.nsIn K mainGlobals "kept" = some (some (.ref f_kept_)))
  (l25 : K.lookup f_kept_ = some ⟨oc25, od25, .func (PySem.W.fnOf "kept" "kept" (defArgs s_kept) (defBody s_kept) (defScope s_kept) .none kV25 dc25 pm25 an25 cd25 ct25), sl25⟩)
  (c25 : PySem.W.codeIn K cd25 "kept" = true)
  (k25 : PySem.W.keepIn K (.ref f_kept_) = true)
  (a26 : PySem.W.nsIn K mainGlobals "_law_draws" = some (some (.ref f_law_draws_)))
  (l26 : K.lookup f_law_draws_ = some ⟨oc26, od26, .func (PySem.W.fnOf "_law_draws" "_law_draws" (defArgs s_law_draws) (defBody s_law_draws) (defScope s_law_draws) .none kV26 dc26 pm26 an26 cd26 ct26), sl26⟩)
  (c26 : PySem.W.codeIn K cd26 "_law_draws" = true)
  (k26 : PySem.W.keepIn K (.ref f_law_draws_) = true)
  (a27 : PySem.W.nsIn K mainGlobals "_law_due" = some (some (.ref f_law_due_)))
  (l27 : K.lookup f_law_due_ = some ⟨oc27, od27, .func (PySem.W.fnOf "_law_due" "_law_due" (defArgs s_law_due) (defBody s_law_due) (defScope s_law_due) .none kV27 dc27 pm27 an27 cd27 ct27), sl27⟩)
  (c27 : PySem.W.codeIn K cd27 "_law_due" = true)
  (k27 : PySem.W.keepIn K (.ref f_law_due_) = true)
  (a28 : PySem.W.nsIn K mainGlobals "_law_seen" = some (some (.ref f_law_seen_)))
  (l28 : K.lookup f_law_seen_ = some ⟨oc28, od28, .func (PySem.W.fnOf "_law_seen" "_law_seen" (defArgs s_law_seen) (defBody s_law_seen) (defScope s_law_seen) .none kV28 dc28 pm28 an28 cd28 ct28), sl28⟩)
  (c28 : PySem.W.codeIn K cd28 "_law_seen" = true)
  (k28 : PySem.W.keepIn K (.ref f_law_seen_) = true)
  (a29 : PySem.W.nsIn K mainGlobals "_law_lines" = some (some (.ref f_law_lines_)))
  (l29 : K.lookup f_law_lines_ = some ⟨oc29, od29, .func (PySem.W.fnOf "_law_lines" "_law_lines" (defArgs s_law_lines) (defBody s_law_lines) (defScope s_law_lines) .none kV29 dc29 pm29 an29 cd29 ct29), sl29⟩)
  (c29 : PySem.W.codeIn K cd29 "_law_lines" = true)
  (k29 : PySem.W.keepIn K (.ref f_law_lines_) = true)
  (a30 : PySem.W.nsIn K mainGlobals "_law_cover" = some (some (.ref f_law_cover_)))
  (l30 : K.lookup f_law_cover_ = some ⟨oc30, od30, .func (PySem.W.fnOf "_law_cover" "_law_cover" (defArgs s_law_cover) (defBody s_law_cover) (defScope s_law_cover) .none kV30 dc30 pm30 an30 cd30 ct30), sl30⟩)
  (c30 : PySem.W.codeIn K cd30 "_law_cover" = true)
  (k30 : PySem.W.keepIn K (.ref f_law_cover_) = true)
  (a31 : PySem.W.nsIn K mainGlobals "_law_rows" = some (some (.ref f_law_rows_)))
  (l31 : K.lookup f_law_rows_ = some ⟨oc31, od31, .func (PySem.W.fnOf "_law_rows" "_law_rows" (defArgs s_law_rows) (defBody s_law_rows) (defScope s_law_rows) .none kV31 dc31 pm31 an31 cd31 ct31), sl31⟩)
  (c31 : PySem.W.codeIn K cd31 "_law_rows" = true)
  (k31 : PySem.W.keepIn K (.ref f_law_rows_) = true)
  (a32 : PySem.W.nsIn K mainGlobals "_law_losses" = some (some (.ref f_law_losses_)))
  (l32 : K.lookup f_law_losses_ = some ⟨oc32, od32, .func (PySem.W.fnOf "_law_losses" "_law_losses" (defArgs s_law_losses) (defBody s_law_losses) (defScope s_law_losses) .none kV32 dc32 pm32 an32 cd32 ct32), sl32⟩)
  (c32 : PySem.W.codeIn K cd32 "_law_losses" = true)
  (k32 : PySem.W.keepIn K (.ref f_law_losses_) = true)
  (a33 : PySem.W.nsIn K mainGlobals "_law_made" = some (some (.ref f_law_made_)))
  (l33 : K.lookup f_law_made_ = some ⟨oc33, od33, .func (PySem.W.fnOf "_law_made" "_law_made" (defArgs s_law_made) (defBody s_law_made) (defScope s_law_made) .none kV33 dc33 pm33 an33 cd33 ct33), sl33⟩)
  (c33 : PySem.W.codeIn K cd33 "_law_made" = true)
  (k33 : PySem.W.keepIn K (.ref f_law_made_) = true)
  (a34 : PySem.W.nsIn K mainGlobals "_law_split" = some (some (.ref f_law_split_)))
  (l34 : K.lookup f_law_split_ = some ⟨oc34, od34, .func (PySem.W.fnOf "_law_split" "_law_split" (defArgs s_law_split) (defBody s_law_split) (defScope s_law_split) .none kV34 dc34 pm34 an34 cd34 ct34), sl34⟩)
  (c34 : PySem.W.codeIn K cd34 "_law_split" = true)
  (k34 : PySem.W.keepIn K (.ref f_law_split_) = true)
  (a35 : PySem.W.nsIn K mainGlobals "_law_splits" = some (some (.ref f_law_splits_)))
  (l35 : K.lookup f_law_splits_ = some ⟨oc35, od35, .func (PySem.W.fnOf "_law_splits" "_law_splits" (defArgs s_law_splits) (defBody s_law_splits) (defScope s_law_splits) .none kV35 dc35 pm35 an35 cd35 ct35), sl35⟩)
  (c35 : PySem.W.codeIn K cd35 "_law_splits" = true)
  (k35 : PySem.W.keepIn K (.ref f_law_splits_) = true)
  (a36 : PySem.W.nsIn K mainGlobals "_law_loads" = some (some (.ref f_law_loads_)))
  (l36 : K.lookup f_law_loads_ = some ⟨oc36, od36, .func (PySem.W.fnOf "_law_loads" "_law_loads" (defArgs s_law_loads) (defBody s_law_loads) (defScope s_law_loads) .none kV36 dc36 pm36 an36 cd36 ct36), sl36⟩)
  (c36 : PySem.W.codeIn K cd36 "_law_loads" = true)
  (k36 : PySem.W.keepIn K (.ref f_law_loads_) = true)
  (a37 : PySem.W.nsIn K mainGlobals "_law_take" = some (some (.ref f_law_take_)))
  (l37 : K.lookup f_law_take_ = some ⟨oc37, od37, .func (PySem.W.fnOf "_law_take" "_law_take" (defArgs s_law_take) (defBody s_law_take) (defScope s_law_take) .none kV37 dc37 pm37 an37 cd37 ct37), sl37⟩)
  (c37 : PySem.W.codeIn K cd37 "_law_take" = true)
  (k37 : PySem.W.keepIn K (.ref f_law_take_) = true)
  (a38 : PySem.W.nsIn K mainGlobals "_law_passed" = some (some (.ref f_law_passed_)))
  (l38 : K.lookup f_law_passed_ = some ⟨oc38, od38, .func (PySem.W.fnOf "_law_passed" "_law_passed" (defArgs s_law_passed) (defBody s_law_passed) (defScope s_law_passed) .none kV38 dc38 pm38 an38 cd38 ct38), sl38⟩)
  (c38 : PySem.W.codeIn K cd38 "_law_passed" = true)
  (k38 : PySem.W.keepIn K (.ref f_law_passed_) = true)
  (a39 : PySem.W.nsIn K mainGlobals "_law_come" = some (some (.ref f_law_come_)))
  (l39 : K.lookup f_law_come_ = some ⟨oc39, od39, .func (PySem.W.fnOf "_law_come" "_law_come" (defArgs s_law_come) (defBody s_law_come) (defScope s_law_come) .none kV39 dc39 pm39 an39 cd39 ct39), sl39⟩)
  (c39 : PySem.W.codeIn K cd39 "_law_come" = true)
  (k39 : PySem.W.keepIn K (.ref f_law_come_) = true)
  (a40 : PySem.W.nsIn K mainGlobals "_law_below" = some (some (.ref f_law_below_)))
  (l40 : K.lookup f_law_below_ = some ⟨oc40, od40, .func (PySem.W.fnOf "_law_below" "_law_below" (defArgs s_law_below) (defBody s_law_below) (defScope s_law_below) .none kV40 dc40 pm40 an40 cd40 ct40), sl40⟩)
  (c40 : PySem.W.codeIn K cd40 "_law_below" = true)
  (k40 : PySem.W.keepIn K (.ref f_law_below_) = true)
  (a41 : PySem.W.nsIn K mainGlobals "_law_account" = some (some (.ref f_law_account_)))
  (l41 : K.lookup f_law_account_ = some ⟨oc41, od41, .func (PySem.W.fnOf "_law_account" "_law_account" (defArgs s_law_account) (defBody s_law_account) (defScope s_law_account) .none kV41 dc41 pm41 an41 cd41 ct41), sl41⟩)
  (c41 : PySem.W.codeIn K cd41 "_law_account" = true)
  (k41 : PySem.W.keepIn K (.ref f_law_account_) = true)
  (a42 : PySem.W.nsIn K mainGlobals "_law_least" = some (some (.ref f_law_least_)))
  (l42 : K.lookup f_law_least_ = some ⟨oc42, od42, .func (PySem.W.fnOf "_law_least" "_law_least" (defArgs s_law_least) (defBody s_law_least) (defScope s_law_least) .none kV42 dc42 pm42 an42 cd42 ct42), sl42⟩)
  (c42 : PySem.W.codeIn K cd42 "_law_least" = true)
  (k42 : PySem.W.keepIn K (.ref f_law_least_) = true)
  (a43 : PySem.W.nsIn K mainGlobals "_law_door" = some (some (.ref f_law_door_)))
  (l43 : K.lookup f_law_door_ = some ⟨oc43, od43, .func (PySem.W.fnOf "_law_door" "_law_door" (defArgs s_law_door) (defBody s_law_door) (defScope s_law_door) .none kV43 dc43 pm43 an43 cd43 ct43), sl43⟩)
  (c43 : PySem.W.codeIn K cd43 "_law_door" = true)
  (k43 : PySem.W.keepIn K (.ref f_law_door_) = true)
  (a44 : PySem.W.nsIn K mainGlobals "_law_spoilt" = some (some (.ref f_law_spoilt_)))
  (l44 : K.lookup f_law_spoilt_ = some ⟨oc44, od44, .func (PySem.W.fnOf "_law_spoilt" "_law_spoilt" (defArgs s_law_spoilt) (defBody s_law_spoilt) (defScope s_law_spoilt) .none kV44 dc44 pm44 an44 cd44 ct44), sl44⟩)
  (c44 : PySem.W.codeIn K cd44 "_law_spoilt" = true)
  (k44 : PySem.W.keepIn K (.ref f_law_spoilt_) = true)
  (a45 : PySem.W.nsIn K mainGlobals "law" = some (some (.ref f_law_)))
  (l45 : K.lookup f_law_ = some ⟨oc45, od45, .func (PySem.W.fnOf "law" "law" (defArgs s_law) (defBody s_law) (defScope s_law) .none kV45 dc45 pm45 an45 cd45 ct45), sl45⟩)
  (c45 : PySem.W.codeIn K cd45 "law" = true)
  (k45 : PySem.W.keepIn K (.ref f_law_) = true) :
    ∃ fd : FuncData, (∀ (s : Shared) (v : Value), BindsTo s fd ⟨[v], []⟩ [("_law_script", v)]) ∧ ∀ base : Heap, K.In base → base.Ns mainGlobals mg → FnOk l.prog w K mg base (L2.CX l.prog w) 8 fa fd ["_law_script"] (spLaw K) := by
  have e := hfa.symm.trans (PySem.W.mg_of X G a45)
  cases e
  let T : Tx K mg := {
    b_ValueError := PySem.W.mg_none_of X G zb_ValueError,
    b_isinstance := PySem.W.mg_none_of X G zb_isinstance,
    b_len := PySem.W.mg_none_of X G zb_len,
    b_list := PySem.W.mg_none_of X G zb_list,
    b_max := PySem.W.mg_none_of X G zb_max,
    b_min := PySem.W.mg_none_of X G zb_min,
    b_range := PySem.W.mg_none_of X G zb_range,
    b_tuple := PySem.W.mg_none_of X G zb_tuple,
    tk_MOST_SIGNERS := tk_MOST_SIGNERS,
    c_MOST_SIGNERS := PySem.W.mg_of X G zc_MOST_SIGNERS,
    tk_MOST_HOUSES := tk_MOST_HOUSES,
    c_MOST_HOUSES := PySem.W.mg_of X G zc_MOST_HOUSES,
    tk_MOST_LINE := tk_MOST_LINE,
    c_MOST_LINE := PySem.W.mg_of X G zc_MOST_LINE,
    tk_MOST_POINT := tk_MOST_POINT,
    c_MOST_POINT := PySem.W.mg_of X G zc_MOST_POINT,
    tk_MOST := tk_MOST,
    c_MOST := PySem.W.mg_of X G zc_MOST,
    C_BadHouses := C_BadHouses,
    x_BadHouses := ⟨PySem.W.mg_of X G zg_BadHouses, zx_BadHouses, zk_BadHouses, zs_BadHouses, zt_BadHouses⟩,
    tk_MOST_COVERS := tk_MOST_COVERS,
    c_MOST_COVERS := PySem.W.mg_of X G zc_MOST_COVERS,
    C_BadCover := C_BadCover,
    x_BadCover := ⟨PySem.W.mg_of X G zg_BadCover, zx_BadCover, zk_BadCover, zs_BadCover, zt_BadCover⟩,
    C_BadLosses := C_BadLosses,
    x_BadLosses := ⟨PySem.W.mg_of X G zg_BadLosses, zx_BadLosses, zk_BadLosses, zs_BadLosses, zt_BadLosses⟩,
    tk_MOST_LOSS := tk_MOST_LOSS,
    c_MOST_LOSS := PySem.W.mg_of X G zc_MOST_LOSS,
    C_BadAccount := C_BadAccount,
    x_BadAccount := ⟨PySem.W.mg_of X G zg_BadAccount, zx_BadAccount, zk_BadAccount, zs_BadAccount, zt_BadAccount⟩,
    C_Unbacked := C_Unbacked,
    x_Unbacked := ⟨PySem.W.mg_of X G zg_Unbacked, zx_Unbacked, zk_Unbacked, zs_Unbacked, zt_Unbacked⟩,
    C_Short := C_Short,
    x_Short := ⟨PySem.W.mg_of X G zg_Short, zx_Short, zk_Short, zs_Short, zt_Short⟩,
    C_Disagrees := C_Disagrees,
    x_Disagrees := ⟨PySem.W.mg_of X G zg_Disagrees, zx_Disagrees, zk_Disagrees, zs_Disagrees, zt_Disagrees⟩,
    g_BadCover := PySem.W.mg_of X G zg_BadCover,
    C_BadLines := C_BadLines,
    g_BadLines := PySem.W.mg_of X G zg_BadLines,
    g_BadHouses := PySem.W.mg_of X G zg_BadHouses,
    g_BadAccount := PySem.W.mg_of X G zg_BadAccount,
    g_BadLosses := PySem.W.mg_of X G zg_BadLosses,
    C_BadCrowns := C_BadCrowns,
    g_BadCrowns := PySem.W.mg_of X G zg_BadCrowns,
    C_NoHouse := C_NoHouse,
    g_NoHouse := PySem.W.mg_of X G zg_NoHouse,
    g_Disagrees := PySem.W.mg_of X G zg_Disagrees,
    g_Short := PySem.W.mg_of X G zg_Short,
    g_Unbacked := PySem.W.mg_of X G zg_Unbacked,
    C_BadDay := C_BadDay,
    g_BadDay := PySem.W.mg_of X G zg_BadDay,
    C_NoLoss := C_NoLoss,
    g_NoLoss := PySem.W.mg_of X G zg_NoLoss,
    C_NoHappening := C_NoHappening,
    g_NoHappening := PySem.W.mg_of X G zg_NoHappening,
    C_NoCover := C_NoCover,
    g_NoCover := PySem.W.mg_of X G zg_NoCover,
    C_Full := C_Full,
    g_Full := PySem.W.mg_of X G zg_Full,
    C_Same := C_Same,
    g_Same := PySem.W.mg_of X G zg_Same,
    C_Endless := C_Endless,
    g_Endless := PySem.W.mg_of X G zg_Endless,
    C_BadTerms := C_BadTerms,
    g_BadTerms := PySem.W.mg_of X G zg_BadTerms,
    C_BadText := C_BadText,
    g_BadText := PySem.W.mg_of X G zg_BadText,
    C_Nothing := C_Nothing,
    g_Nothing := PySem.W.mg_of X G zg_Nothing,
    C_BadDeed := C_BadDeed,
    g_BadDeed := PySem.W.mg_of X G zg_BadDeed,
    C_RingError := C_RingError,
    g_RingError := PySem.W.mg_of X G zg_RingError,
    C_Table := C_Table,
    g_Table := PySem.W.mg_of X G zg_Table,
    cls_Table := ⟨pg_Table, hd_Table, po_Table, sa_Table⟩,
    na_Table_befell := na_Table_befell,
    na_Table_rows := na_Table_rows,
    na_Table_size := na_Table_size,
    na_Table_splits := na_Table_splits }
  refine ⟨PySem.W.fnOf "law" "law" (defArgs s_law) (defBody s_law) (defScope s_law) .none kV45 dc45 pm45 an45 cd45 ct45, fun s v => .of_eq rfl, fun base _ _ => ?_⟩
  have F0 := fun_mk (st := s_are_lines) l0 c0 k0
  have B0 := F0.binds (ps := ["lines"]) fun _ _ _ _ _ _ us hl => match us, hl with | [_], _ => rfl
  have c_are_lines : Cl l.prog w ⟨K, mg⟩ base 1 "are_lines" f_are_lines := ⟨f_are_lines_, _, _, ok_are_lines (P := l.prog) (w := w) (base := base) F0 T, PySem.W.mg_of X G a0, k0, B0⟩
  have F1 := fun_mk (st := s_foremost) l1 c1 k1
  have B1 := F1.binds (ps := ["lines", "borne"]) fun _ _ _ _ _ _ us hl => match us, hl with | [_, _], _ => rfl
  have c_foremost : Cl l.prog w ⟨K, mg⟩ base 1 "foremost" f_foremost := ⟨f_foremost_, _, _, ok_foremost (P := l.prog) (w := w) (base := base) F1 T, PySem.W.mg_of X G a1, k1, B1⟩
  have F2 := fun_mk (st := s_grown_parts) l2 c2 k2
  have B2 := F2.binds (ps := ["lines", "most"]) fun _ _ _ _ _ _ us hl => match us, hl with | [_, _], _ => rfl
  have c_grown_parts : Cl l.prog w ⟨K, mg⟩ base 2 "grown_parts" f_grown_parts := ⟨f_grown_parts_, _, _, ok_grown_parts (P := l.prog) (w := w) (base := base) F2 T c_foremost, PySem.W.mg_of X G a2, k2, B2⟩
  have F3 := fun_mk (st := s_is_by) l3 c3 k3
  have B3 := F3.binds (ps := ["kind", "by"]) fun _ _ _ _ _ _ us hl => match us, hl with | [_, _], _ => rfl
  have c_is_by : Cl l.prog w ⟨K, mg⟩ base 1 "is_by" f_is_by := ⟨f_is_by_, _, _, ok_is_by (P := l.prog) (w := w) (base := base) F3 T, PySem.W.mg_of X G a3, k3, B3⟩
  have F4 := fun_mk (st := s_is_cover) l4 c4 k4
  have B4 := F4.binds (ps := ["houses", "cover"]) fun _ _ _ _ _ _ us hl => match us, hl with | [_, _], _ => rfl
  have c_is_cover : Cl l.prog w ⟨K, mg⟩ base 2 "is_cover" f_is_cover := ⟨f_is_cover_, _, _, ok_is_cover (P := l.prog) (w := w) (base := base) F4 T c_are_lines c_is_by, PySem.W.mg_of X G a4, k4, B4⟩
  have F5 := fun_mk (st := s_taken) l5 c5 k5
  have B5 := F5.binds (ps := ["kind", "by", "most", "reach"]) fun _ _ _ _ _ _ us hl => match us, hl with | [_, _, _, _], _ => rfl
  have c_taken : Cl l.prog w ⟨K, mg⟩ base 1 "taken" f_taken := ⟨f_taken_, _, _, ok_taken (P := l.prog) (w := w) (base := base) F5 T, PySem.W.mg_of X G a5, k5, B5⟩
  have F6 := fun_mk (st := s_look_houses) l6 c6 k6
  have B6 := F6.binds (ps := ["houses"]) fun _ _ _ _ _ _ us hl => match us, hl with | [_], _ => rfl
  have c_look_houses : Cl l.prog w ⟨K, mg⟩ base 1 "look_houses" f_look_houses := ⟨f_look_houses_, _, _, ok_look_houses (P := l.prog) (w := w) (base := base) F6 T, PySem.W.mg_of X G a6, k6, B6⟩
  have F7 := fun_mk (st := s_Table___init__) l7 c7 k7
  have B7 := F7.binds (ps := ["self", "houses", "covers", "losses"]) fun _ _ _ _ _ _ us hl => match us, hl with | [_, _, _, _], _ => rfl
  have c_Table___init__ : Clc l.prog w ⟨K, mg⟩ base 3 "Table" f_Table___init__ := ⟨⟨C_Table, f_Table___init___, _, _, PySem.W.mg_of X G zg_Table, ⟨mk_Table, a7, i7, kc_Table⟩, ok_Table___init__ (P := l.prog) (w := w) (base := base) F7 T c_grown_parts c_is_cover c_look_houses, B7⟩⟩
  have F8 := fun_mk (st := s_Table_mosts) l8 c8 k8
  have B8 := F8.binds (ps := ["self"]) fun _ _ _ _ _ _ us hl => match us, hl with | [_], _ => rfl
  have c_Table_mosts : Clm l.prog w ⟨K, mg⟩ base 1 "Table" "mosts" f_Table_mosts := ⟨⟨C_Table, f_Table_mosts_, _, _, PySem.W.mg_of X G zg_Table, ⟨pg_Table, hd_Table, po_Table, sa_Table⟩, ⟨a8, i8, k8⟩, ok_Table_mosts (P := l.prog) (w := w) (base := base) F8 T, B8⟩⟩
  have F9 := fun_mk (st := s_Table_loads) l9 c9 k9
  have B9 := F9.binds (ps := ["self", "account"]) fun _ _ _ _ _ _ us hl => match us, hl with | [_, _], _ => rfl
  have c_Table_loads : Clm l.prog w ⟨K, mg⟩ base 1 "Table" "loads" f_Table_loads := ⟨⟨C_Table, f_Table_loads_, _, _, PySem.W.mg_of X G zg_Table, ⟨pg_Table, hd_Table, po_Table, sa_Table⟩, ⟨a9, i9, k9⟩, ok_Table_loads (P := l.prog) (w := w) (base := base) F9 T, B9⟩⟩
  have F10 := fun_mk (st := s_Table_passed) l10 c10 k10
  have B10 := F10.binds (ps := ["self", "account"]) fun _ _ _ _ _ _ us hl => match us, hl with | [_, _], _ => rfl
  have c_Table_passed : Clm l.prog w ⟨K, mg⟩ base 2 "Table" "passed" f_Table_passed := ⟨⟨C_Table, f_Table_passed_, _, _, PySem.W.mg_of X G zg_Table, ⟨pg_Table, hd_Table, po_Table, sa_Table⟩, ⟨a10, i10, k10⟩, ok_Table_passed (P := l.prog) (w := w) (base := base) F10 T c_Table_loads c_taken, B10⟩⟩
  have F11 := fun_mk (st := s_look_account) l11 c11 k11
  have B11 := F11.binds (ps := ["table", "account"]) fun _ _ _ _ _ _ us hl => match us, hl with | [_, _], _ => rfl
  have c_look_account : Cl l.prog w ⟨K, mg⟩ base 2 "look_account" f_look_account := ⟨f_look_account_, _, _, ok_look_account (P := l.prog) (w := w) (base := base) F11 T c_Table_mosts, PySem.W.mg_of X G a11, k11, B11⟩
  have F12 := fun_mk (st := s_burdens) l12 c12 k12
  have B12 := F12.binds (ps := ["table", "account"]) fun _ _ _ _ _ _ us hl => match us, hl with | [_, _], _ => rfl
  have c_burdens : Cl l.prog w ⟨K, mg⟩ base 3 "burdens" f_burdens := ⟨f_burdens_, _, _, ok_burdens (P := l.prog) (w := w) (base := base) F12 T c_Table_loads c_look_account, PySem.W.mg_of X G a12, k12, B12⟩
  have F13 := fun_mk (st := s_asked) l13 c13 k13
  have B13 := F13.binds (ps := ["table", "account"]) fun _ _ _ _ _ _ us hl => match us, hl with | [_, _], _ => rfl
  have c_asked : Cl l.prog w ⟨K, mg⟩ base 3 "asked" f_asked := ⟨f_asked_, _, _, ok_asked (P := l.prog) (w := w) (base := base) F13 T c_Table_passed c_look_account, PySem.W.mg_of X G a13, k13, B13⟩
  have F14 := fun_mk (st := s_settled) l14 c14 k14
  have B14 := F14.binds (ps := ["table", "account"]) fun _ _ _ _ _ _ us hl => match us, hl with | [_, _], _ => rfl
  have c_settled : Cl l.prog w ⟨K, mg⟩ base 3 "settled" f_settled := ⟨f_settled_, _, _, ok_settled (P := l.prog) (w := w) (base := base) F14 T c_Table_passed, PySem.W.mg_of X G a14, k14, B14⟩
  have F15 := fun_mk (st := s_shows) l15 c15 k15
  have B15 := F15.binds (ps := ["table", "steps", "account"]) fun _ _ _ _ _ _ us hl => match us, hl with | [_, _, _], _ => rfl
  have c_shows : Cl l.prog w ⟨K, mg⟩ base 3 "shows" f_shows := ⟨f_shows_, _, _, ok_shows (P := l.prog) (w := w) (base := base) F15 T c_Table_mosts c_Table_passed c_look_account, PySem.W.mg_of X G a15, k15, B15⟩
  have F16 := fun_mk (st := s_agrees) l16 c16 k16
  have B16 := F16.binds (ps := ["table", "account"]) fun _ _ _ _ _ _ us hl => match us, hl with | [_, _], _ => rfl
  have c_agrees : Cl l.prog w ⟨K, mg⟩ base 4 "agrees" f_agrees := ⟨f_agrees_, _, _, ok_agrees (P := l.prog) (w := w) (base := base) F16 T c_asked, PySem.W.mg_of X G a16, k16, B16⟩
  have F17 := fun_mk (st := s_lies_below) l17 c17 k17
  have B17 := F17.binds (ps := ["one", "other"]) fun _ _ _ _ _ _ us hl => match us, hl with | [_, _], _ => rfl
  have c_lies_below : Cl l.prog w ⟨K, mg⟩ base 1 "lies_below" f_lies_below := ⟨f_lies_below_, _, _, ok_lies_below (P := l.prog) (w := w) (base := base) F17 T, PySem.W.mg_of X G a17, k17, B17⟩
  have F18 := fun_mk (st := s_backed) l18 c18 k18
  have B18 := F18.binds (ps := ["table", "account"]) fun _ _ _ _ _ _ us hl => match us, hl with | [_, _], _ => rfl
  have c_backed : Cl l.prog w ⟨K, mg⟩ base 4 "backed" f_backed := ⟨f_backed_, _, _, ok_backed (P := l.prog) (w := w) (base := base) F18 T c_asked c_lies_below, PySem.W.mg_of X G a18, k18, B18⟩
  have F19 := fun_mk (st := s_enough) l19 c19 k19
  have B19 := F19.binds (ps := ["table", "account"]) fun _ _ _ _ _ _ us hl => match us, hl with | [_, _], _ => rfl
  have c_enough : Cl l.prog w ⟨K, mg⟩ base 4 "enough" f_enough := ⟨f_enough_, _, _, ok_enough (P := l.prog) (w := w) (base := base) F19 T c_asked c_lies_below, PySem.W.mg_of X G a19, k19, B19⟩
  have F20 := fun_mk (st := s_above) l20 c20 k20
  have B20 := F20.binds (ps := ["table", "account"]) fun _ _ _ _ _ _ us hl => match us, hl with | [_, _], _ => rfl
  have c_above : Cl l.prog w ⟨K, mg⟩ base 5 "above" f_above := ⟨f_above_, _, _, ok_above (P := l.prog) (w := w) (base := base) F20 T c_backed c_settled, PySem.W.mg_of X G a20, k20, B20⟩
  have F21 := fun_mk (st := s_below) l21 c21 k21
  have B21 := F21.binds (ps := ["table", "account"]) fun _ _ _ _ _ _ us hl => match us, hl with | [_, _], _ => rfl
  have c_below : Cl l.prog w ⟨K, mg⟩ base 5 "below" f_below := ⟨f_below_, _, _, ok_below (P := l.prog) (w := w) (base := base) F21 T c_enough c_settled, PySem.W.mg_of X G a21, k21, B21⟩
  have F22 := fun_mk (st := s_look_both) l22 c22 k22
  have B22 := F22.binds (ps := ["table", "one", "other"]) fun _ _ _ _ _ _ us hl => match us, hl with | [_, _, _], _ => rfl
  have c_look_both : Cl l.prog w ⟨K, mg⟩ base 5 "look_both" f_look_both := ⟨f_look_both_, _, _, ok_look_both (P := l.prog) (w := w) (base := base) F22 T c_agrees, PySem.W.mg_of X G a22, k22, B22⟩
  have F23 := fun_mk (st := s_joint) l23 c23 k23
  have B23 := F23.binds (ps := ["table", "one", "other"]) fun _ _ _ _ _ _ us hl => match us, hl with | [_, _, _], _ => rfl
  have c_joint : Cl l.prog w ⟨K, mg⟩ base 6 "joint" f_joint := ⟨f_joint_, _, _, ok_joint (P := l.prog) (w := w) (base := base) F23 T c_look_both c_settled, PySem.W.mg_of X G a23, k23, B23⟩
  have F24 := fun_mk (st := s_meeting) l24 c24 k24
  have B24 := F24.binds (ps := ["table", "one", "other"]) fun _ _ _ _ _ _ us hl => match us, hl with | [_, _, _], _ => rfl
  have c_meeting : Cl l.prog w ⟨K, mg⟩ base 6 "meeting" f_meeting := ⟨f_meeting_, _, _, ok_meeting (P := l.prog) (w := w) (base := base) F24 T c_look_both c_settled, PySem.W.mg_of X G a24, k24, B24⟩
  have F25 := fun_mk (st := s_kept) l25 c25 k25
  have B25 := F25.binds (ps := ["table", "account"]) fun _ _ _ _ _ _ us hl => match us, hl with | [_, _], _ => rfl
  have c_kept : Cl l.prog w ⟨K, mg⟩ base 5 "kept" f_kept := ⟨f_kept_, _, _, ok_kept (P := l.prog) (w := w) (base := base) F25 T c_Table_passed c_agrees, PySem.W.mg_of X G a25, k25, B25⟩
  have F26 := fun_mk (st := s_law_draws) l26 c26 k26
  have B26 := F26.binds (ps := ["_law_script", "_law_many"]) fun _ _ _ _ _ _ us hl => match us, hl with | [_, _], _ => rfl
  have c_law_draws : Cl l.prog w ⟨K, mg⟩ base 1 "_law_draws" f_law_draws := ⟨f_law_draws_, _, _, ok_law_draws (P := l.prog) (w := w) (base := base) F26 T, PySem.W.mg_of X G a26, k26, B26⟩
  have F27 := fun_mk (st := s_law_due) l27 c27 k27
  have B27 := F27.binds (ps := ["_law_want"]) fun _ _ _ _ _ _ us hl => match us, hl with | [_], _ => rfl
  have c_law_due : Cl l.prog w ⟨K, mg⟩ base 1 "_law_due" f_law_due := ⟨f_law_due_, _, _, ok_law_due (P := l.prog) (w := w) (base := base) F27 T, PySem.W.mg_of X G a27, k27, B27⟩
  have F28 := fun_mk (st := s_law_seen) l28 c28 k28
  have B28 := F28.binds (ps := ["_law_e"]) fun _ _ _ _ _ _ us hl => match us, hl with | [_], _ => rfl
  have SFs : ∀ C c ds, mg c = some (.ref C) → seen_ c = some ds → SeenF T C c := by
    intro C c ds hg hs
    unfold seen_ at hs
    split at hs
    · rename_i h
      rcases h with rfl | rfl | rfl | rfl | rfl | rfl | rfl
      · have hC := hg.symm.trans (PySem.W.mg_of X G zg_BadHouses)
        cases hC
        exact { ex := ⟨e1_BadHouses, e2_BadHouses, zs_BadHouses, e3_BadHouses, e4_BadHouses, e_sp, e_tk, e5_BadHouses⟩, k_ValueError := kt_BadHouses_ValueError, k_BadHouses := kt_BadHouses_BadHouses, k_BadLines := kt_BadHouses_BadLines, k_BadCover := kt_BadHouses_BadCover, k_BadCrowns := kt_BadHouses_BadCrowns, k_BadLosses := kt_BadHouses_BadLosses, k_BadAccount := kt_BadHouses_BadAccount, k_Unbacked := kt_BadHouses_Unbacked, k_Short := kt_BadHouses_Short, k_Disagrees := kt_BadHouses_Disagrees, k_NoHouse := kt_BadHouses_NoHouse, k_NoCover := kt_BadHouses_NoCover, k_NoHappening := kt_BadHouses_NoHappening, k_NoLoss := kt_BadHouses_NoLoss, k_BadDay := kt_BadHouses_BadDay, k_BadTerms := kt_BadHouses_BadTerms, k_Endless := kt_BadHouses_Endless, k_Same := kt_BadHouses_Same, k_Full := kt_BadHouses_Full, k_BadDeed := kt_BadHouses_BadDeed, k_Nothing := kt_BadHouses_Nothing, k_BadText := kt_BadHouses_BadText }
      · have hC := hg.symm.trans (PySem.W.mg_of X G zg_BadCover)
        cases hC
        exact { ex := ⟨e1_BadCover, e2_BadCover, zs_BadCover, e3_BadCover, e4_BadCover, e_sp, e_tk, e5_BadCover⟩, k_ValueError := kt_BadCover_ValueError, k_BadHouses := kt_BadCover_BadHouses, k_BadLines := kt_BadCover_BadLines, k_BadCover := kt_BadCover_BadCover, k_BadCrowns := kt_BadCover_BadCrowns, k_BadLosses := kt_BadCover_BadLosses, k_BadAccount := kt_BadCover_BadAccount, k_Unbacked := kt_BadCover_Unbacked, k_Short := kt_BadCover_Short, k_Disagrees := kt_BadCover_Disagrees, k_NoHouse := kt_BadCover_NoHouse, k_NoCover := kt_BadCover_NoCover, k_NoHappening := kt_BadCover_NoHappening, k_NoLoss := kt_BadCover_NoLoss, k_BadDay := kt_BadCover_BadDay, k_BadTerms := kt_BadCover_BadTerms, k_Endless := kt_BadCover_Endless, k_Same := kt_BadCover_Same, k_Full := kt_BadCover_Full, k_BadDeed := kt_BadCover_BadDeed, k_Nothing := kt_BadCover_Nothing, k_BadText := kt_BadCover_BadText }
      · have hC := hg.symm.trans (PySem.W.mg_of X G zg_BadLosses)
        cases hC
        exact { ex := ⟨e1_BadLosses, e2_BadLosses, zs_BadLosses, e3_BadLosses, e4_BadLosses, e_sp, e_tk, e5_BadLosses⟩, k_ValueError := kt_BadLosses_ValueError, k_BadHouses := kt_BadLosses_BadHouses, k_BadLines := kt_BadLosses_BadLines, k_BadCover := kt_BadLosses_BadCover, k_BadCrowns := kt_BadLosses_BadCrowns, k_BadLosses := kt_BadLosses_BadLosses, k_BadAccount := kt_BadLosses_BadAccount, k_Unbacked := kt_BadLosses_Unbacked, k_Short := kt_BadLosses_Short, k_Disagrees := kt_BadLosses_Disagrees, k_NoHouse := kt_BadLosses_NoHouse, k_NoCover := kt_BadLosses_NoCover, k_NoHappening := kt_BadLosses_NoHappening, k_NoLoss := kt_BadLosses_NoLoss, k_BadDay := kt_BadLosses_BadDay, k_BadTerms := kt_BadLosses_BadTerms, k_Endless := kt_BadLosses_Endless, k_Same := kt_BadLosses_Same, k_Full := kt_BadLosses_Full, k_BadDeed := kt_BadLosses_BadDeed, k_Nothing := kt_BadLosses_Nothing, k_BadText := kt_BadLosses_BadText }
      · have hC := hg.symm.trans (PySem.W.mg_of X G zg_BadAccount)
        cases hC
        exact { ex := ⟨e1_BadAccount, e2_BadAccount, zs_BadAccount, e3_BadAccount, e4_BadAccount, e_sp, e_tk, e5_BadAccount⟩, k_ValueError := kt_BadAccount_ValueError, k_BadHouses := kt_BadAccount_BadHouses, k_BadLines := kt_BadAccount_BadLines, k_BadCover := kt_BadAccount_BadCover, k_BadCrowns := kt_BadAccount_BadCrowns, k_BadLosses := kt_BadAccount_BadLosses, k_BadAccount := kt_BadAccount_BadAccount, k_Unbacked := kt_BadAccount_Unbacked, k_Short := kt_BadAccount_Short, k_Disagrees := kt_BadAccount_Disagrees, k_NoHouse := kt_BadAccount_NoHouse, k_NoCover := kt_BadAccount_NoCover, k_NoHappening := kt_BadAccount_NoHappening, k_NoLoss := kt_BadAccount_NoLoss, k_BadDay := kt_BadAccount_BadDay, k_BadTerms := kt_BadAccount_BadTerms, k_Endless := kt_BadAccount_Endless, k_Same := kt_BadAccount_Same, k_Full := kt_BadAccount_Full, k_BadDeed := kt_BadAccount_BadDeed, k_Nothing := kt_BadAccount_Nothing, k_BadText := kt_BadAccount_BadText }
      · have hC := hg.symm.trans (PySem.W.mg_of X G zg_Unbacked)
        cases hC
        exact { ex := ⟨e1_Unbacked, e2_Unbacked, zs_Unbacked, e3_Unbacked, e4_Unbacked, e_sp, e_tk, e5_Unbacked⟩, k_ValueError := kt_Unbacked_ValueError, k_BadHouses := kt_Unbacked_BadHouses, k_BadLines := kt_Unbacked_BadLines, k_BadCover := kt_Unbacked_BadCover, k_BadCrowns := kt_Unbacked_BadCrowns, k_BadLosses := kt_Unbacked_BadLosses, k_BadAccount := kt_Unbacked_BadAccount, k_Unbacked := kt_Unbacked_Unbacked, k_Short := kt_Unbacked_Short, k_Disagrees := kt_Unbacked_Disagrees, k_NoHouse := kt_Unbacked_NoHouse, k_NoCover := kt_Unbacked_NoCover, k_NoHappening := kt_Unbacked_NoHappening, k_NoLoss := kt_Unbacked_NoLoss, k_BadDay := kt_Unbacked_BadDay, k_BadTerms := kt_Unbacked_BadTerms, k_Endless := kt_Unbacked_Endless, k_Same := kt_Unbacked_Same, k_Full := kt_Unbacked_Full, k_BadDeed := kt_Unbacked_BadDeed, k_Nothing := kt_Unbacked_Nothing, k_BadText := kt_Unbacked_BadText }
      · have hC := hg.symm.trans (PySem.W.mg_of X G zg_Short)
        cases hC
        exact { ex := ⟨e1_Short, e2_Short, zs_Short, e3_Short, e4_Short, e_sp, e_tk, e5_Short⟩, k_ValueError := kt_Short_ValueError, k_BadHouses := kt_Short_BadHouses, k_BadLines := kt_Short_BadLines, k_BadCover := kt_Short_BadCover, k_BadCrowns := kt_Short_BadCrowns, k_BadLosses := kt_Short_BadLosses, k_BadAccount := kt_Short_BadAccount, k_Unbacked := kt_Short_Unbacked, k_Short := kt_Short_Short, k_Disagrees := kt_Short_Disagrees, k_NoHouse := kt_Short_NoHouse, k_NoCover := kt_Short_NoCover, k_NoHappening := kt_Short_NoHappening, k_NoLoss := kt_Short_NoLoss, k_BadDay := kt_Short_BadDay, k_BadTerms := kt_Short_BadTerms, k_Endless := kt_Short_Endless, k_Same := kt_Short_Same, k_Full := kt_Short_Full, k_BadDeed := kt_Short_BadDeed, k_Nothing := kt_Short_Nothing, k_BadText := kt_Short_BadText }
      · have hC := hg.symm.trans (PySem.W.mg_of X G zg_Disagrees)
        cases hC
        exact { ex := ⟨e1_Disagrees, e2_Disagrees, zs_Disagrees, e3_Disagrees, e4_Disagrees, e_sp, e_tk, e5_Disagrees⟩, k_ValueError := kt_Disagrees_ValueError, k_BadHouses := kt_Disagrees_BadHouses, k_BadLines := kt_Disagrees_BadLines, k_BadCover := kt_Disagrees_BadCover, k_BadCrowns := kt_Disagrees_BadCrowns, k_BadLosses := kt_Disagrees_BadLosses, k_BadAccount := kt_Disagrees_BadAccount, k_Unbacked := kt_Disagrees_Unbacked, k_Short := kt_Disagrees_Short, k_Disagrees := kt_Disagrees_Disagrees, k_NoHouse := kt_Disagrees_NoHouse, k_NoCover := kt_Disagrees_NoCover, k_NoHappening := kt_Disagrees_NoHappening, k_NoLoss := kt_Disagrees_NoLoss, k_BadDay := kt_Disagrees_BadDay, k_BadTerms := kt_Disagrees_BadTerms, k_Endless := kt_Disagrees_Endless, k_Same := kt_Disagrees_Same, k_Full := kt_Disagrees_Full, k_BadDeed := kt_Disagrees_BadDeed, k_Nothing := kt_Disagrees_Nothing, k_BadText := kt_Disagrees_BadText }
    · cases hs
  have RG : ∀ x C b, ring_ x = some b → mg x = some (.ref C) → PySem.W.exmOne K (.ref C) (.ref C_RingError) = some b := by
    intro x C b hs hg
    unfold ring_ at hs
    split at hs
    · rename_i h
      cases hs
      rcases h with rfl | rfl | rfl | rfl | rfl | rfl | rfl
      · have hC := hg.symm.trans (PySem.W.mg_of X G zg_BadHouses)
        cases hC
        exact PySem.W.exm_ref eb_RingError eh_RingError ey_RingError es_BadHouses_RingError
      · have hC := hg.symm.trans (PySem.W.mg_of X G zg_BadCover)
        cases hC
        exact PySem.W.exm_ref eb_RingError eh_RingError ey_RingError es_BadCover_RingError
      · have hC := hg.symm.trans (PySem.W.mg_of X G zg_BadLosses)
        cases hC
        exact PySem.W.exm_ref eb_RingError eh_RingError ey_RingError es_BadLosses_RingError
      · have hC := hg.symm.trans (PySem.W.mg_of X G zg_BadAccount)
        cases hC
        exact PySem.W.exm_ref eb_RingError eh_RingError ey_RingError es_BadAccount_RingError
      · have hC := hg.symm.trans (PySem.W.mg_of X G zg_Unbacked)
        cases hC
        exact PySem.W.exm_ref eb_RingError eh_RingError ey_RingError es_Unbacked_RingError
      · have hC := hg.symm.trans (PySem.W.mg_of X G zg_Short)
        cases hC
        exact PySem.W.exm_ref eb_RingError eh_RingError ey_RingError es_Short_RingError
      · have hC := hg.symm.trans (PySem.W.mg_of X G zg_Disagrees)
        cases hC
        exact PySem.W.exm_ref eb_RingError eh_RingError ey_RingError es_Disagrees_RingError
    · cases hs
  have c_law_seen : Cle l.prog w ⟨K, mg⟩ base 1 "_law_seen" seen_ := ⟨f_law_seen_, _, _, ok_law_seen (P := l.prog) (w := w) (base := base) F28 T SFs seen_eval, PySem.W.mg_of X G a28, k28, B28⟩
  have F29 := fun_mk (st := s_law_lines) l29 c29 k29
  have B29 := F29.binds (ps := ["_law_houses", "_law_house", "_law_draws_here"]) fun _ _ _ _ _ _ us hl => match us, hl with | [_, _, _], _ => rfl
  have c_law_lines : Cl l.prog w ⟨K, mg⟩ base 1 "_law_lines" f_law_lines := ⟨f_law_lines_, _, _, ok_law_lines (P := l.prog) (w := w) (base := base) F29 T, PySem.W.mg_of X G a29, k29, B29⟩
  have F30 := fun_mk (st := s_law_cover) l30 c30 k30
  have B30 := F30.binds (ps := ["_law_houses", "_law_draws_here"]) fun _ _ _ _ _ _ us hl => match us, hl with | [_, _], _ => rfl
  have c_law_cover : Cl l.prog w ⟨K, mg⟩ base 2 "_law_cover" f_law_cover := ⟨f_law_cover_, _, _, ok_law_cover (P := l.prog) (w := w) (base := base) F30 T c_law_lines, PySem.W.mg_of X G a30, k30, B30⟩
  have F31 := fun_mk (st := s_law_rows) l31 c31 k31
  have B31 := F31.binds (ps := ["_law_houses", "_law_draws_here"]) fun _ _ _ _ _ _ us hl => match us, hl with | [_, _], _ => rfl
  have c_law_rows : Cl l.prog w ⟨K, mg⟩ base 3 "_law_rows" f_law_rows := ⟨f_law_rows_, _, _, ok_law_rows (P := l.prog) (w := w) (base := base) F31 T c_law_cover, PySem.W.mg_of X G a31, k31, B31⟩
  have F32 := fun_mk (st := s_law_losses) l32 c32 k32
  have B32 := F32.binds (ps := ["_law_houses", "_law_draws_here"]) fun _ _ _ _ _ _ us hl => match us, hl with | [_, _], _ => rfl
  have c_law_losses : Cl l.prog w ⟨K, mg⟩ base 1 "_law_losses" f_law_losses := ⟨f_law_losses_, _, _, ok_law_losses (P := l.prog) (w := w) (base := base) F32 T, PySem.W.mg_of X G a32, k32, B32⟩
  have F33 := fun_mk (st := s_law_made) l33 c33 k33
  have B33 := F33.binds (ps := ["_law_draws_here"]) fun _ _ _ _ _ _ us hl => match us, hl with | [_], _ => rfl
  have c_law_made : Cl l.prog w ⟨K, mg⟩ base 4 "_law_made" f_law_made := ⟨f_law_made_, _, _, ok_law_made (P := l.prog) (w := w) (base := base) F33 T c_law_losses c_law_rows, PySem.W.mg_of X G a33, k33, B33⟩
  have F34 := fun_mk (st := s_law_split) l34 c34 k34
  have B34 := F34.binds (ps := ["_law_lines_here", "_law_most"]) fun _ _ _ _ _ _ us hl => match us, hl with | [_, _], _ => rfl
  have c_law_split : Cl l.prog w ⟨K, mg⟩ base 1 "_law_split" f_law_split := ⟨f_law_split_, _, _, ok_law_split (P := l.prog) (w := w) (base := base) F34 T, PySem.W.mg_of X G a34, k34, B34⟩
  have F35 := fun_mk (st := s_law_splits) l35 c35 k35
  have B35 := F35.binds (ps := ["_law_covers"]) fun _ _ _ _ _ _ us hl => match us, hl with | [_], _ => rfl
  have c_law_splits : Cl l.prog w ⟨K, mg⟩ base 2 "_law_splits" f_law_splits := ⟨f_law_splits_, _, _, ok_law_splits (P := l.prog) (w := w) (base := base) F35 T c_law_split, PySem.W.mg_of X G a35, k35, B35⟩
  have F36 := fun_mk (st := s_law_loads) l36 c36 k36
  have B36 := F36.binds (ps := ["_law_covers", "_law_losses_here", "_law_splits_here", "_law_account_here"]) fun _ _ _ _ _ _ us hl => match us, hl with | [_, _, _, _], _ => rfl
  have c_law_loads : Cl l.prog w ⟨K, mg⟩ base 1 "_law_loads" f_law_loads := ⟨f_law_loads_, _, _, ok_law_loads (P := l.prog) (w := w) (base := base) F36 T, PySem.W.mg_of X G a36, k36, B36⟩
  have F37 := fun_mk (st := s_law_take) l37 c37 k37
  have B37 := F37.binds (ps := ["_law_kind", "_law_by", "_law_most", "_law_reach"]) fun _ _ _ _ _ _ us hl => match us, hl with | [_, _, _, _], _ => rfl
  have c_law_take : Cl l.prog w ⟨K, mg⟩ base 1 "_law_take" f_law_take := ⟨f_law_take_, _, _, ok_law_take (P := l.prog) (w := w) (base := base) F37 T, PySem.W.mg_of X G a37, k37, B37⟩
  have F38 := fun_mk (st := s_law_passed) l38 c38 k38
  have B38 := F38.binds (ps := ["_law_covers", "_law_losses_here", "_law_splits_here", "_law_account_here"]) fun _ _ _ _ _ _ us hl => match us, hl with | [_, _, _, _], _ => rfl
  have c_law_passed : Cl l.prog w ⟨K, mg⟩ base 2 "_law_passed" f_law_passed := ⟨f_law_passed_, _, _, ok_law_passed (P := l.prog) (w := w) (base := base) F38 T c_law_loads c_law_take, PySem.W.mg_of X G a38, k38, B38⟩
  have F39 := fun_mk (st := s_law_come) l39 c39 k39
  have B39 := F39.binds (ps := ["_law_covers", "_law_losses_here", "_law_splits_here", "_law_account_here"]) fun _ _ _ _ _ _ us hl => match us, hl with | [_, _, _, _], _ => rfl
  have c_law_come : Cl l.prog w ⟨K, mg⟩ base 3 "_law_come" f_law_come := ⟨f_law_come_, _, _, ok_law_come (P := l.prog) (w := w) (base := base) F39 T c_law_passed, PySem.W.mg_of X G a39, k39, B39⟩
  have F40 := fun_mk (st := s_law_below) l40 c40 k40
  have B40 := F40.binds (ps := ["_law_one", "_law_other"]) fun _ _ _ _ _ _ us hl => match us, hl with | [_, _], _ => rfl
  have c_law_below : Cl l.prog w ⟨K, mg⟩ base 1 "_law_below" f_law_below := ⟨f_law_below_, _, _, ok_law_below (P := l.prog) (w := w) (base := base) F40 T, PySem.W.mg_of X G a40, k40, B40⟩
  have F41 := fun_mk (st := s_law_account) l41 c41 k41
  have B41 := F41.binds (ps := ["_law_covers", "_law_draws_here"]) fun _ _ _ _ _ _ us hl => match us, hl with | [_, _], _ => rfl
  have c_law_account : Cl l.prog w ⟨K, mg⟩ base 1 "_law_account" f_law_account := ⟨f_law_account_, _, _, ok_law_account (P := l.prog) (w := w) (base := base) F41 T, PySem.W.mg_of X G a41, k41, B41⟩
  have F42 := fun_mk (st := s_law_least) l42 c42 k42
  have B42 := F42.binds (ps := ["_law_covers", "_law_losses_here", "_law_splits_here"]) fun _ _ _ _ _ _ us hl => match us, hl with | [_, _, _], _ => rfl
  have c_law_least : Cl l.prog w ⟨K, mg⟩ base 4 "_law_least" f_law_least := ⟨f_law_least_, _, _, ok_law_least (P := l.prog) (w := w) (base := base) F42 T c_law_come, PySem.W.mg_of X G a42, k42, B42⟩
  have F43 := fun_mk (st := s_law_door) l43 c43 k43
  have B43 := F43.binds (ps := ["_law_door_here", "_law_table", "_law_one", "_law_other"]) fun _ _ _ _ _ _ us hl => match us, hl with | [_, _, _, _], _ => rfl
  have c_law_door : Cl l.prog w ⟨K, mg⟩ base 7 "_law_door" f_law_door := ⟨f_law_door_, _, _, ok_law_door (P := l.prog) (w := w) (base := base) F43 T c_law_seen RG c_above c_agrees c_asked c_backed c_below c_burdens c_enough c_joint c_kept c_meeting c_shows, PySem.W.mg_of X G a43, k43, B43⟩
  have F44 := fun_mk (st := s_law_spoilt) l44 c44 k44
  have B44 := F44.binds (ps := ["_law_account_here", "_law_mosts", "_law_draws_here"]) fun _ _ _ _ _ _ us hl => match us, hl with | [_, _, _], _ => rfl
  have c_law_spoilt : Cl l.prog w ⟨K, mg⟩ base 1 "_law_spoilt" f_law_spoilt := ⟨f_law_spoilt_, _, _, ok_law_spoilt (P := l.prog) (w := w) (base := base) F44 T, PySem.W.mg_of X G a44, k44, B44⟩
  have F45 := fun_mk (st := s_law) l45 c45 k45
  have B45 := F45.binds (ps := ["_law_script"]) fun _ _ _ _ _ _ us hl => match us, hl with | [_], _ => rfl
  exact FnOk.imp (ok_law (P := l.prog) (w := w) (base := base) F45 T c_Table___init__ c_law_account c_law_below c_law_door c_law_draws c_law_due c_law_least c_law_made c_law_splits c_law_spoilt) law_sp
theorem walk {l : PySem.W.OpenLaw} {q : Program} {loose : List Str} {XP : (Str → Option Value) → Heap → Prop} {YP : World → Heap → Prop} {d : DefRec} {K : Params → PySem.W.Frag} (hn : l.most = some 63) (hdf : d.params.defaults = [])
    (hY : ∀ (w : World) (h : Heap), YP w h → (K w.params).In h)
    (F : ∀ (w : World) (mg : Str → Option Value) (fa : Addr) (h : Heap), (K w.params).In h → h.Ns mainGlobals mg → mg d.name = some (.ref fa) →
      ∃ fd : FuncData, (∀ (s : Shared) (u : Value), BindsTo s fd ⟨[u], []⟩ [("_law_script", u)]) ∧ ∀ base : Heap, (K w.params).In base → base.Ns mainGlobals mg → FnOk l.prog w (K w.params) mg base (L2.CX l.prog w) 8 fa fd ["_law_script"] (spLaw (K w.params))) :
    PySem.W.WalkO q loose XP YP l.row.toRowW d [] (fun f vs => PySem.call f vs) :=
  L2.walk_of (n := 63) (k := 8) (x := "_law_script") (CX := fun w => L2.CX l.prog w) (sp := fun w => spLaw (K w.params)) hn (by decide) hdf ⟨rfl, by decide, by decide⟩ hY F (fun _ _ a ns hl _ hS => ⟨a, ns, rfl, hS, hl, fun _ => rfl⟩) fun _ _ _ _ _ z => by
    obtain ⟨_, _, _, _, _, _, _, _, _, _, _, _, z⟩ := z
    exact z
end RC
open PySem PySem.W PyProof.Rows
set_option maxRecDepth 100000 in
set_option maxHeartbeats 0 in
theorem PySem.Challenge.cw_ringcede_k13_bad_accounts_holds : PySem.Challenge.rw_ringcede_k13_bad_accounts.Holds := by
  w_on; o_law; k_head; (case hw => w_witness2)
  k_fill
  refine RC.walk (l := PySem.Challenge.rw_ringcede_k13_bad_accounts) rfl rfl (fun w h Y => PySem.W.kIn_of Y) ?F
  case F =>
    intro w mg fa h KX G hmg
    refine' RC.all_mk KX G hmg ?zb_ValueError ?zb_isinstance ?zb_len ?zb_list ?zb_max ?zb_min ?zb_range ?zb_tuple ?zc_MOST_SIGNERS ?zc_MOST_HOUSES ?zc_MOST_LINE ?zc_MOST_POINT ?zc_MOST ?zg_BadHouses ?zx_BadHouses ?zk_BadHouses ?zs_BadHouses ?zt_BadHouses ?zc_MOST_COVERS ?zg_BadCover ?zx_BadCover ?zk_BadCover ?zs_BadCover ?zt_BadCover ?zg_BadLosses ?zx_BadLosses ?zk_BadLosses ?zs_BadLosses ?zt_BadLosses ?zc_MOST_LOSS ?zg_BadAccount ?zx_BadAccount ?zk_BadAccount ?zs_BadAccount ?zt_BadAccount ?zg_Unbacked ?zx_Unbacked ?zk_Unbacked ?zs_Unbacked ?zt_Unbacked ?zg_Short ?zx_Short ?zk_Short ?zs_Short ?zt_Short ?zg_Disagrees ?zx_Disagrees ?zk_Disagrees ?zs_Disagrees ?zt_Disagrees ?zg_BadLines ?zg_BadCrowns ?zg_NoHouse ?zg_BadDay ?zg_NoLoss ?zg_NoHappening ?zg_NoCover ?zg_Full ?zg_Same ?zg_Endless ?zg_BadTerms ?zg_BadText ?zg_Nothing ?zg_BadDeed ?zg_RingError ?e_sp ?e_tk ?e1_BadHouses ?e2_BadHouses ?e3_BadHouses ?e4_BadHouses ?e5_BadHouses ?kt_BadHouses_ValueError ?kt_BadHouses_BadHouses ?kt_BadHouses_BadLines ?kt_BadHouses_BadCover ?kt_BadHouses_BadCrowns ?kt_BadHouses_BadLosses ?kt_BadHouses_BadAccount ?kt_BadHouses_Unbacked ?kt_BadHouses_Short ?kt_BadHouses_Disagrees ?kt_BadHouses_NoHouse ?kt_BadHouses_NoCover ?kt_BadHouses_NoHappening ?kt_BadHouses_NoLoss ?kt_BadHouses_BadDay ?kt_BadHouses_BadTerms ?kt_BadHouses_Endless ?kt_BadHouses_Same ?kt_BadHouses_Full ?kt_BadHouses_BadDeed ?kt_BadHouses_Nothing ?kt_BadHouses_BadText ?es_BadHouses_RingError ?e1_BadCover ?e2_BadCover ?e3_BadCover ?e4_BadCover ?e5_BadCover ?kt_BadCover_ValueError ?kt_BadCover_BadHouses ?kt_BadCover_BadLines ?kt_BadCover_BadCover ?kt_BadCover_BadCrowns ?kt_BadCover_BadLosses ?kt_BadCover_BadAccount ?kt_BadCover_Unbacked ?kt_BadCover_Short ?kt_BadCover_Disagrees ?kt_BadCover_NoHouse ?kt_BadCover_NoCover ?kt_BadCover_NoHappening ?kt_BadCover_NoLoss ?kt_BadCover_BadDay ?kt_BadCover_BadTerms ?kt_BadCover_Endless ?kt_BadCover_Same ?kt_BadCover_Full ?kt_BadCover_BadDeed ?kt_BadCover_Nothing ?kt_BadCover_BadText ?es_BadCover_RingError ?e1_BadLosses ?e2_BadLosses ?e3_BadLosses ?e4_BadLosses ?e5_BadLosses ?kt_BadLosses_ValueError ?kt_BadLosses_BadHouses ?kt_BadLosses_BadLines ?kt_BadLosses_BadCover ?kt_BadLosses_BadCrowns ?kt_BadLosses_BadLosses ?kt_BadLosses_BadAccount ?kt_BadLosses_Unbacked ?kt_BadLosses_Short ?kt_BadLosses_Disagrees ?kt_BadLosses_NoHouse ?kt_BadLosses_NoCover ?kt_BadLosses_NoHappening ?kt_BadLosses_NoLoss ?kt_BadLosses_BadDay ?kt_BadLosses_BadTerms ?kt_BadLosses_Endless ?kt_BadLosses_Same ?kt_BadLosses_Full ?kt_BadLosses_BadDeed ?kt_BadLosses_Nothing ?kt_BadLosses_BadText ?es_BadLosses_RingError ?e1_BadAccount ?e2_BadAccount ?e3_BadAccount ?e4_BadAccount ?e5_BadAccount ?kt_BadAccount_ValueError ?kt_BadAccount_BadHouses ?kt_BadAccount_BadLines ?kt_BadAccount_BadCover ?kt_BadAccount_BadCrowns ?kt_BadAccount_BadLosses ?kt_BadAccount_BadAccount ?kt_BadAccount_Unbacked ?kt_BadAccount_Short ?kt_BadAccount_Disagrees ?kt_BadAccount_NoHouse ?kt_BadAccount_NoCover ?kt_BadAccount_NoHappening ?kt_BadAccount_NoLoss ?kt_BadAccount_BadDay ?kt_BadAccount_BadTerms ?kt_BadAccount_Endless ?kt_BadAccount_Same ?kt_BadAccount_Full ?kt_BadAccount_BadDeed ?kt_BadAccount_Nothing ?kt_BadAccount_BadText ?es_BadAccount_RingError ?e1_Unbacked ?e2_Unbacked ?e3_Unbacked ?e4_Unbacked ?e5_Unbacked ?kt_Unbacked_ValueError ?kt_Unbacked_BadHouses ?kt_Unbacked_BadLines ?kt_Unbacked_BadCover ?kt_Unbacked_BadCrowns ?kt_Unbacked_BadLosses ?kt_Unbacked_BadAccount ?kt_Unbacked_Unbacked ?kt_Unbacked_Short ?kt_Unbacked_Disagrees ?kt_Unbacked_NoHouse ?kt_Unbacked_NoCover ?kt_Unbacked_NoHappening ?kt_Unbacked_NoLoss ?kt_Unbacked_BadDay ?kt_Unbacked_BadTerms ?kt_Unbacked_Endless ?kt_Unbacked_Same ?kt_Unbacked_Full ?kt_Unbacked_BadDeed ?kt_Unbacked_Nothing ?kt_Unbacked_BadText ?es_Unbacked_RingError ?e1_Short ?e2_Short ?e3_Short ?e4_Short ?e5_Short ?kt_Short_ValueError ?kt_Short_BadHouses ?kt_Short_BadLines ?kt_Short_BadCover ?kt_Short_BadCrowns ?kt_Short_BadLosses ?kt_Short_BadAccount ?kt_Short_Unbacked ?kt_Short_Short ?kt_Short_Disagrees ?kt_Short_NoHouse ?kt_Short_NoCover ?kt_Short_NoHappening ?kt_Short_NoLoss ?kt_Short_BadDay ?kt_Short_BadTerms ?kt_Short_Endless ?kt_Short_Same ?kt_Short_Full ?kt_Short_BadDeed ?kt_Short_Nothing ?kt_Short_BadText ?es_Short_RingError ?e1_Disagrees ?e2_Disagrees ?e3_Disagrees ?e4_Disagrees ?e5_Disagrees ?kt_Disagrees_ValueError ?kt_Disagrees_BadHouses ?kt_Disagrees_BadLines ?kt_Disagrees_BadCover ?kt_Disagrees_BadCrowns ?kt_Disagrees_BadLosses ?kt_Disagrees_BadAccount ?kt_Disagrees_Unbacked ?kt_Disagrees_Short ?kt_Disagrees_Disagrees ?kt_Disagrees_NoHouse ?kt_Disagrees_NoCover ?kt_Disagrees_NoHappening ?kt_Disagrees_NoLoss ?kt_Disagrees_BadDay ?kt_Disagrees_BadTerms ?kt_Disagrees_Endless ?kt_Disagrees_Same ?kt_Disagrees_Full ?kt_Disagrees_BadDeed ?kt_Disagrees_Nothing ?kt_Disagrees_BadText ?es_Disagrees_RingError ?eb_RingError ?eh_RingError ?ey_RingError ?zg_Table ?pg_Table ?hd_Table ?po_Table ?sa_Table ?mk_Table ?kc_Table ?na_Table_befell ?na_Table_rows ?na_Table_size ?na_Table_splits ?a0 ?l0 ?c0 ?k0 ?a1 ?l1 ?c1 ?k1 ?a2 ?l2 ?c2 ?k2 ?a3 ?l3 ?c3 ?k3 ?a4 ?l4 ?c4 ?k4 ?a5 ?l5 ?c5 ?k5 ?a6 ?l6 ?c6 ?k6 ?a7 ?i7 ?l7 ?c7 ?k7 ?a8 ?i8 ?l8 ?c8 ?k8 ?a9 ?i9 ?l9 ?c9 ?k9 ?a10 ?i10 ?l10 ?c10 ?k10 ?a11 ?l11 ?c11 ?k11 ?a12 ?l12 ?c12 ?k12 ?a13 ?l13 ?c13 ?k13 ?a14 ?l14 ?c14 ?k14 ?a15 ?l15 ?c15 ?k15 ?a16 ?l16 ?c16 ?k16 ?a17 ?l17 ?c17 ?k17 ?a18 ?l18 ?c18 ?k18 ?a19 ?l19 ?c19 ?k19 ?a20 ?l20 ?c20 ?k20 ?a21 ?l21 ?c21 ?k21 ?a22 ?l22 ?c22 ?k22 ?a23 ?l23 ?c23 ?k23 ?a24 ?l24 ?c24 ?k24 ?a25 ?l25 ?c25 ?k25 ?a26 ?l26 ?c26 ?k26 ?a27 ?l27 ?c27 ?k27 ?a28 ?l28 ?c28 ?k28 ?a29 ?l29 ?c29 ?k29 ?a30 ?l30 ?c30 ?k30 ?a31 ?l31 ?c31 ?k31 ?a32 ?l32 ?c32 ?k32 ?a33 ?l33 ?c33 ?k33 ?a34 ?l34 ?c34 ?k34 ?a35 ?l35 ?c35 ?k35 ?a36 ?l36 ?c36 ?k36 ?a37 ?l37 ?c37 ?k37 ?a38 ?l38 ?c38 ?k38 ?a39 ?l39 ?c39 ?k39 ?a40 ?l40 ?c40 ?k40 ?a41 ?l41 ?c41 ?k41 ?a42 ?l42 ?c42 ?k42 ?a43 ?l43 ?c43 ?k43 ?a44 ?l44 ?c44 ?k44 ?a45 ?l45 ?c45 ?k45
    (case zb_ValueError => k_is)
    (case zb_isinstance => k_is)
    (case zb_len => k_is)
    (case zb_list => k_is)
    (case zb_max => k_is)
    (case zb_min => k_is)
    (case zb_range => k_is)
    (case zb_tuple => k_is)
    (case zc_MOST_SIGNERS => k_is)
    (case zc_MOST_HOUSES => k_is)
    (case zc_MOST_LINE => k_is)
    (case zc_MOST_POINT => k_is)
    (case zc_MOST => k_is)
    (case zg_BadHouses => k_is)
    (case zx_BadHouses => k_exc)
    (case zk_BadHouses => k_is)
    (case zs_BadHouses => k_is)
    (case zt_BadHouses => k_is)
    (case zc_MOST_COVERS => k_is)
    (case zg_BadCover => k_is)
    (case zx_BadCover => k_exc)
    (case zk_BadCover => k_is)
    (case zs_BadCover => k_is)
    (case zt_BadCover => k_is)
    (case zg_BadLosses => k_is)
    (case zx_BadLosses => k_exc)
    (case zk_BadLosses => k_is)
    (case zs_BadLosses => k_is)
    (case zt_BadLosses => k_is)
    (case zc_MOST_LOSS => k_is)
    (case zg_BadAccount => k_is)
    (case zx_BadAccount => k_exc)
    (case zk_BadAccount => k_is)
    (case zs_BadAccount => k_is)
    (case zt_BadAccount => k_is)
    (case zg_Unbacked => k_is)
    (case zx_Unbacked => k_exc)
    (case zk_Unbacked => k_is)
    (case zs_Unbacked => k_is)
    (case zt_Unbacked => k_is)
    (case zg_Short => k_is)
    (case zx_Short => k_exc)
    (case zk_Short => k_is)
    (case zs_Short => k_is)
    (case zt_Short => k_is)
    (case zg_Disagrees => k_is)
    (case zx_Disagrees => k_exc)
    (case zk_Disagrees => k_is)
    (case zs_Disagrees => k_is)
    (case zt_Disagrees => k_is)
    (case zg_BadLines => k_is)
    (case zg_BadCrowns => k_is)
    (case zg_NoHouse => k_is)
    (case zg_BadDay => k_is)
    (case zg_NoLoss => k_is)
    (case zg_NoHappening => k_is)
    (case zg_NoCover => k_is)
    (case zg_Full => k_is)
    (case zg_Same => k_is)
    (case zg_Endless => k_is)
    (case zg_BadTerms => k_is)
    (case zg_BadText => k_is)
    (case zg_Nothing => k_is)
    (case zg_BadDeed => k_is)
    (case zg_RingError => k_is)
    (case e_sp => k_is)
    (case e_tk => k_is)
    (case e1_BadHouses => k_is)
    (case e2_BadHouses => k_is)
    (case e3_BadHouses => k_is)
    (case e4_BadHouses => k_is)
    (case e5_BadHouses => k_is)
    (case kt_BadHouses_ValueError => kit_is)
    (case kt_BadHouses_BadHouses => kit_is)
    (case kt_BadHouses_BadLines => kit_is)
    (case kt_BadHouses_BadCover => kit_is)
    (case kt_BadHouses_BadCrowns => kit_is)
    (case kt_BadHouses_BadLosses => kit_is)
    (case kt_BadHouses_BadAccount => kit_is)
    (case kt_BadHouses_Unbacked => kit_is)
    (case kt_BadHouses_Short => kit_is)
    (case kt_BadHouses_Disagrees => kit_is)
    (case kt_BadHouses_NoHouse => kit_is)
    (case kt_BadHouses_NoCover => kit_is)
    (case kt_BadHouses_NoHappening => kit_is)
    (case kt_BadHouses_NoLoss => kit_is)
    (case kt_BadHouses_BadDay => kit_is)
    (case kt_BadHouses_BadTerms => kit_is)
    (case kt_BadHouses_Endless => kit_is)
    (case kt_BadHouses_Same => kit_is)
    (case kt_BadHouses_Full => kit_is)
    (case kt_BadHouses_BadDeed => kit_is)
    (case kt_BadHouses_Nothing => kit_is)
    (case kt_BadHouses_BadText => kit_is)
    (case es_BadHouses_RingError => k_is)
    (case e1_BadCover => k_is)
    (case e2_BadCover => k_is)
    (case e3_BadCover => k_is)
    (case e4_BadCover => k_is)
    (case e5_BadCover => k_is)
    (case kt_BadCover_ValueError => kit_is)
    (case kt_BadCover_BadHouses => kit_is)
    (case kt_BadCover_BadLines => kit_is)
    (case kt_BadCover_BadCover => kit_is)
    (case kt_BadCover_BadCrowns => kit_is)
    (case kt_BadCover_BadLosses => kit_is)
    (case kt_BadCover_BadAccount => kit_is)
    (case kt_BadCover_Unbacked => kit_is)
    (case kt_BadCover_Short => kit_is)
    (case kt_BadCover_Disagrees => kit_is)
    (case kt_BadCover_NoHouse => kit_is)
    (case kt_BadCover_NoCover => kit_is)
    (case kt_BadCover_NoHappening => kit_is)
    (case kt_BadCover_NoLoss => kit_is)
    (case kt_BadCover_BadDay => kit_is)
    (case kt_BadCover_BadTerms => kit_is)
    (case kt_BadCover_Endless => kit_is)
    (case kt_BadCover_Same => kit_is)
    (case kt_BadCover_Full => kit_is)
    (case kt_BadCover_BadDeed => kit_is)
    (case kt_BadCover_Nothing => kit_is)
    (case kt_BadCover_BadText => kit_is)
    (case es_BadCover_RingError => k_is)
    (case e1_BadLosses => k_is)
    (case e2_BadLosses => k_is)
    (case e3_BadLosses => k_is)
    (case e4_BadLosses => k_is)
    (case e5_BadLosses => k_is)
    (case kt_BadLosses_ValueError => kit_is)
    (case kt_BadLosses_BadHouses => kit_is)
    (case kt_BadLosses_BadLines => kit_is)
    (case kt_BadLosses_BadCover => kit_is)
    (case kt_BadLosses_BadCrowns => kit_is)
    (case kt_BadLosses_BadLosses => kit_is)
    (case kt_BadLosses_BadAccount => kit_is)
    (case kt_BadLosses_Unbacked => kit_is)
    (case kt_BadLosses_Short => kit_is)
    (case kt_BadLosses_Disagrees => kit_is)
    (case kt_BadLosses_NoHouse => kit_is)
    (case kt_BadLosses_NoCover => kit_is)
    (case kt_BadLosses_NoHappening => kit_is)
    (case kt_BadLosses_NoLoss => kit_is)
    (case kt_BadLosses_BadDay => kit_is)
    (case kt_BadLosses_BadTerms => kit_is)
    (case kt_BadLosses_Endless => kit_is)
    (case kt_BadLosses_Same => kit_is)
    (case kt_BadLosses_Full => kit_is)
    (case kt_BadLosses_BadDeed => kit_is)
    (case kt_BadLosses_Nothing => kit_is)
    (case kt_BadLosses_BadText => kit_is)
    (case es_BadLosses_RingError => k_is)
    (case e1_BadAccount => k_is)
    (case e2_BadAccount => k_is)
    (case e3_BadAccount => k_is)
    (case e4_BadAccount => k_is)
    (case e5_BadAccount => k_is)
    (case kt_BadAccount_ValueError => kit_is)
    (case kt_BadAccount_BadHouses => kit_is)
    (case kt_BadAccount_BadLines => kit_is)
    (case kt_BadAccount_BadCover => kit_is)
    (case kt_BadAccount_BadCrowns => kit_is)
    (case kt_BadAccount_BadLosses => kit_is)
    (case kt_BadAccount_BadAccount => kit_is)
    (case kt_BadAccount_Unbacked => kit_is)
    (case kt_BadAccount_Short => kit_is)
    (case kt_BadAccount_Disagrees => kit_is)
    (case kt_BadAccount_NoHouse => kit_is)
    (case kt_BadAccount_NoCover => kit_is)
    (case kt_BadAccount_NoHappening => kit_is)
    (case kt_BadAccount_NoLoss => kit_is)
    (case kt_BadAccount_BadDay => kit_is)
    (case kt_BadAccount_BadTerms => kit_is)
    (case kt_BadAccount_Endless => kit_is)
    (case kt_BadAccount_Same => kit_is)
    (case kt_BadAccount_Full => kit_is)
    (case kt_BadAccount_BadDeed => kit_is)
    (case kt_BadAccount_Nothing => kit_is)
    (case kt_BadAccount_BadText => kit_is)
    (case es_BadAccount_RingError => k_is)
    (case e1_Unbacked => k_is)
    (case e2_Unbacked => k_is)
    (case e3_Unbacked => k_is)
    (case e4_Unbacked => k_is)
    (case e5_Unbacked => k_is)
    (case kt_Unbacked_ValueError => kit_is)
    (case kt_Unbacked_BadHouses => kit_is)
    (case kt_Unbacked_BadLines => kit_is)
    (case kt_Unbacked_BadCover => kit_is)
    (case kt_Unbacked_BadCrowns => kit_is)
    (case kt_Unbacked_BadLosses => kit_is)
    (case kt_Unbacked_BadAccount => kit_is)
    (case kt_Unbacked_Unbacked => kit_is)
    (case kt_Unbacked_Short => kit_is)
    (case kt_Unbacked_Disagrees => kit_is)
    (case kt_Unbacked_NoHouse => kit_is)
    (case kt_Unbacked_NoCover => kit_is)
    (case kt_Unbacked_NoHappening => kit_is)
    (case kt_Unbacked_NoLoss => kit_is)
    (case kt_Unbacked_BadDay => kit_is)
    (case kt_Unbacked_BadTerms => kit_is)
    (case kt_Unbacked_Endless => kit_is)
    (case kt_Unbacked_Same => kit_is)
    (case kt_Unbacked_Full => kit_is)
    (case kt_Unbacked_BadDeed => kit_is)
    (case kt_Unbacked_Nothing => kit_is)
    (case kt_Unbacked_BadText => kit_is)
    (case es_Unbacked_RingError => k_is)
    (case e1_Short => k_is)
    (case e2_Short => k_is)
    (case e3_Short => k_is)
    (case e4_Short => k_is)
    (case e5_Short => k_is)
    (case kt_Short_ValueError => kit_is)
    (case kt_Short_BadHouses => kit_is)
    (case kt_Short_BadLines => kit_is)
    (case kt_Short_BadCover => kit_is)
    (case kt_Short_BadCrowns => kit_is)
    (case kt_Short_BadLosses => kit_is)
    (case kt_Short_BadAccount => kit_is)
    (case kt_Short_Unbacked => kit_is)
    (case kt_Short_Short => kit_is)
    (case kt_Short_Disagrees => kit_is)
    (case kt_Short_NoHouse => kit_is)
    (case kt_Short_NoCover => kit_is)
    (case kt_Short_NoHappening => kit_is)
    (case kt_Short_NoLoss => kit_is)
    (case kt_Short_BadDay => kit_is)
    (case kt_Short_BadTerms => kit_is)
    (case kt_Short_Endless => kit_is)
    (case kt_Short_Same => kit_is)
    (case kt_Short_Full => kit_is)
    (case kt_Short_BadDeed => kit_is)
    (case kt_Short_Nothing => kit_is)
    (case kt_Short_BadText => kit_is)
    (case es_Short_RingError => k_is)
    (case e1_Disagrees => k_is)
    (case e2_Disagrees => k_is)
    (case e3_Disagrees => k_is)
    (case e4_Disagrees => k_is)
    (case e5_Disagrees => k_is)
    (case kt_Disagrees_ValueError => kit_is)
    (case kt_Disagrees_BadHouses => kit_is)
    (case kt_Disagrees_BadLines => kit_is)
    (case kt_Disagrees_BadCover => kit_is)
    (case kt_Disagrees_BadCrowns => kit_is)
    (case kt_Disagrees_BadLosses => kit_is)
    (case kt_Disagrees_BadAccount => kit_is)
    (case kt_Disagrees_Unbacked => kit_is)
    (case kt_Disagrees_Short => kit_is)
    (case kt_Disagrees_Disagrees => kit_is)
    (case kt_Disagrees_NoHouse => kit_is)
    (case kt_Disagrees_NoCover => kit_is)
    (case kt_Disagrees_NoHappening => kit_is)
    (case kt_Disagrees_NoLoss => kit_is)
    (case kt_Disagrees_BadDay => kit_is)
    (case kt_Disagrees_BadTerms => kit_is)
    (case kt_Disagrees_Endless => kit_is)
    (case kt_Disagrees_Same => kit_is)
    (case kt_Disagrees_Full => kit_is)
    (case kt_Disagrees_BadDeed => kit_is)
    (case kt_Disagrees_Nothing => kit_is)
    (case kt_Disagrees_BadText => kit_is)
    (case es_Disagrees_RingError => k_is)
    (case eb_RingError => k_is)
    (case eh_RingError => k_is)
    (case ey_RingError => k_is)
    (case zg_Table => k_is)
    (case pg_Table => k_is)
    (case hd_Table => k_is)
    (case po_Table => k_is)
    (case sa_Table => k_is)
    (case mk_Table => k_is)
    (case kc_Table => k_is)
    (case na_Table_befell => k_is)
    (case na_Table_rows => k_is)
    (case na_Table_size => k_is)
    (case na_Table_splits => k_is)
    (case a0 => k_is)
    (case l0 => k_is)
    (case c0 => k_is)
    (case k0 => k_is)
    (case a1 => k_is)
    (case l1 => k_is)
    (case c1 => k_is)
    (case k1 => k_is)
    (case a2 => k_is)
    (case l2 => k_is)
    (case c2 => k_is)
    (case k2 => k_is)
    (case a3 => k_is)
    (case l3 => k_is)
    (case c3 => k_is)
    (case k3 => k_is)
    (case a4 => k_is)
    (case l4 => k_is)
    (case c4 => k_is)
    (case k4 => k_is)
    (case a5 => k_is)
    (case l5 => k_is)
    (case c5 => k_is)
    (case k5 => k_is)
    (case a6 => k_is)
    (case l6 => k_is)
    (case c6 => k_is)
    (case k6 => k_is)
    (case a7 => k_is)
    (case i7 => k_is)
    (case l7 => k_is)
    (case c7 => k_is)
    (case k7 => k_is)
    (case a8 => k_is)
    (case i8 => k_is)
    (case l8 => k_is)
    (case c8 => k_is)
    (case k8 => k_is)
    (case a9 => k_is)
    (case i9 => k_is)
    (case l9 => k_is)
    (case c9 => k_is)
    (case k9 => k_is)
    (case a10 => k_is)
    (case i10 => k_is)
    (case l10 => k_is)
    (case c10 => k_is)
    (case k10 => k_is)
    (case a11 => k_is)
    (case l11 => k_is)
    (case c11 => k_is)
    (case k11 => k_is)
    (case a12 => k_is)
    (case l12 => k_is)
    (case c12 => k_is)
    (case k12 => k_is)
    (case a13 => k_is)
    (case l13 => k_is)
    (case c13 => k_is)
    (case k13 => k_is)
    (case a14 => k_is)
    (case l14 => k_is)
    (case c14 => k_is)
    (case k14 => k_is)
    (case a15 => k_is)
    (case l15 => k_is)
    (case c15 => k_is)
    (case k15 => k_is)
    (case a16 => k_is)
    (case l16 => k_is)
    (case c16 => k_is)
    (case k16 => k_is)
    (case a17 => k_is)
    (case l17 => k_is)
    (case c17 => k_is)
    (case k17 => k_is)
    (case a18 => k_is)
    (case l18 => k_is)
    (case c18 => k_is)
    (case k18 => k_is)
    (case a19 => k_is)
    (case l19 => k_is)
    (case c19 => k_is)
    (case k19 => k_is)
    (case a20 => k_is)
    (case l20 => k_is)
    (case c20 => k_is)
    (case k20 => k_is)
    (case a21 => k_is)
    (case l21 => k_is)
    (case c21 => k_is)
    (case k21 => k_is)
    (case a22 => k_is)
    (case l22 => k_is)
    (case c22 => k_is)
    (case k22 => k_is)
    (case a23 => k_is)
    (case l23 => k_is)
    (case c23 => k_is)
    (case k23 => k_is)
    (case a24 => k_is)
    (case l24 => k_is)
    (case c24 => k_is)
    (case k24 => k_is)
    (case a25 => k_is)
    (case l25 => k_is)
    (case c25 => k_is)
    (case k25 => k_is)
    (case a26 => k_is)
    (case l26 => k_is)
    (case c26 => k_is)
    (case k26 => k_is)
    (case a27 => k_is)
    (case l27 => k_is)
    (case c27 => k_is)
    (case k27 => k_is)
    (case a28 => k_is)
    (case l28 => k_is)
    (case c28 => k_is)
    (case k28 => k_is)
    (case a29 => k_is)
    (case l29 => k_is)
    (case c29 => k_is)
    (case k29 => k_is)
    (case a30 => k_is)
    (case l30 => k_is)
    (case c30 => k_is)
    (case k30 => k_is)
    (case a31 => k_is)
    (case l31 => k_is)
    (case c31 => k_is)
    (case k31 => k_is)
    (case a32 => k_is)
    (case l32 => k_is)
    (case c32 => k_is)
    (case k32 => k_is)
    (case a33 => k_is)
    (case l33 => k_is)
    (case c33 => k_is)
    (case k33 => k_is)
    (case a34 => k_is)
    (case l34 => k_is)
    (case c34 => k_is)
    (case k34 => k_is)
    (case a35 => k_is)
    (case l35 => k_is)
    (case c35 => k_is)
    (case k35 => k_is)
    (case a36 => k_is)
    (case l36 => k_is)
    (case c36 => k_is)
    (case k36 => k_is)
    (case a37 => k_is)
    (case l37 => k_is)
    (case c37 => k_is)
    (case k37 => k_is)
    (case a38 => k_is)
    (case l38 => k_is)
    (case c38 => k_is)
    (case k38 => k_is)
    (case a39 => k_is)
    (case l39 => k_is)
    (case c39 => k_is)
    (case k39 => k_is)
    (case a40 => k_is)
    (case l40 => k_is)
    (case c40 => k_is)
    (case k40 => k_is)
    (case a41 => k_is)
    (case l41 => k_is)
    (case c41 => k_is)
    (case k41 => k_is)
    (case a42 => k_is)
    (case l42 => k_is)
    (case c42 => k_is)
    (case k42 => k_is)
    (case a43 => k_is)
    (case l43 => k_is)
    (case c43 => k_is)
    (case k43 => k_is)
    (case a44 => k_is)
    (case l44 => k_is)
    (case c44 => k_is)
    (case k44 => k_is)
    (case a45 => k_is)
    (case l45 => k_is)
    (case c45 => k_is)
    (case k45 => k_is)