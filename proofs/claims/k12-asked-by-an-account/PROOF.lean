import PyProof.Rows.All
import Wide.All
import OpenK.AllK
import Wide.FinOn
import HandS.ForMost
import HandS.ForExc
import HandS.TupAny
import HandS.IsInst
import PySem.Challenge.RW_ringcede_k12_asked_by_an_account
set_option Elab.async false
set_option linter.all false
set_option maxRecDepth 100000
set_option maxHeartbeats 2000000
/-! R1: data, owned lists, what a frame's slots hold; the readings by a mirror. -/
namespace RC
open PySem PySem.Spec PyProof.Rows L2

/-- data: what a value is, the heap's addresses left out -/
inductive D where
  | non | bl (b : Bool) | int (i : Int) | str (x : Str)
  | tup (xs : List D) | lst (xs : List D) | dct (kvs : List (Key × D)) | obj (n : Str) (fs : List (Str × D))
  /-- a list of ints that is only read (the law's script) -/
  | scr (ns : List Int)
/-- a field of an object that is owned; an owned object -/
inductive F where | fz (d : D) | lst (ds : List D) | dct (kvs : List (Key × D))
inductive O where | lst (ds : List D) | dct (kvs : List (Key × D)) | obj (n : Str) (fs : List (Str × F))
/-- a slot: empty, fixed data, read only, owned, owned by the caller -/
inductive S where | un | fz (d : D) | rd (o : O) | ow (o : O) | mu (o : O)
inductive Lab where | amb | slot (i : Nat) | tmp | sub (l : Lab) (f : Str)
def Lab.root : Lab → Lab
  | .sub l _ => l.root
  | l => l
abbrev Env := List S
abbrev Om := Addr → Option Lab
structure Ga where
  K : PySem.W.Frag
  mg : Str → Option Value

def F.cold : F → D
  | .fz d => d
  | .lst ds => .lst ds
  | .dct kvs => .dct kvs
def O.cold : O → D
  | .lst ds => .lst ds
  | .dct kvs => .dct kvs
  | .obj n fs => .obj n (fs.map fun p => (p.1, p.2.cold))

def hide (om : Om) (H : Hp) : Hp := fun a => match om a with
  | none => H a
  | some _ => none
theorem hide_of {om : Om} {H : Hp} {a : Addr} (h : om a = none) : hide om H a = H a := by unfold hide; rw [h]
theorem hide_iff {om : Om} {H : Hp} {a : Addr} {o : HO} : hide om H a = some o ↔ om a = none ∧ H a = some o := by
  unfold hide
  cases h : om a with
  | none => simp
  | some l => simp

mutual
def Hd (g : Ga) (H : Hp) : D → V → Prop
  | .non, v => v = .non
  | .bl b, v => v = .bl b
  | .int i, v => v = .int i
  | .str x, v => v = .str x
  | .tup ds, v => ∃ a xs, v = .ref a ∧ H a = some (.tup xs) ∧ Hds g H ds xs
  | .lst ds, v => ∃ a xs, v = .ref a ∧ H a = some (.lst xs) ∧ Hds g H ds xs
  | .dct kvs, v => ∃ a ws, v = .ref a ∧ H a = some (.dK ws) ∧ Hks g H kvs ws
  | .scr ns, v => ∃ a, v = .ref a ∧ SqL g.K H a (ns.map V.int)
  | .obj n fs, v => ∃ a C dx ws, v = .ref a ∧ g.mg n = some (.ref C) ∧ H a = some (.ins C dx ws) ∧ Hfs g H fs ws
def Hds (g : Ga) (H : Hp) : List D → List V → Prop
  | [], xs => xs = []
  | d :: ds, xs => ∃ v vs, xs = v :: vs ∧ Hd g H d v ∧ Hds g H ds vs
def Hks (g : Ga) (H : Hp) : List (Key × D) → List (Key × V) → Prop
  | [], xs => xs = []
  | (k, d) :: ds, xs => ∃ v vs, xs = (k, v) :: vs ∧ Hd g H d v ∧ Hks g H ds vs
def Hfs (g : Ga) (H : Hp) : List (Str × D) → List (Str × V) → Prop
  | [], xs => xs = []
  | (f, d) :: ds, xs => ∃ v vs, xs = (f, v) :: vs ∧ Hd g H d v ∧ Hfs g H ds vs
end

theorem Same.seqT {K : PySem.W.Frag} {H H' : Hp} {a : Addr} {xs : List V} (e : Same H H') (h : SqT K H a xs) : SqT K H' a xs := by
  rcases h with (h | ⟨o, h⟩) | h
  · exact .inl (.inl (e _ _ h))
  · exact .inl (.inr ⟨o, e _ _ h⟩)
  · exact .inr h

section
variable {g : Ga} {H H' : Hp}
mutual
theorem Hd.mono (e : Same H H') : ∀ {d : D} {v : V}, Hd g H d v → Hd g H' d v
  | .non, v, h => by unfold Hd at h ⊢; exact h
  | .bl b, v, h => by unfold Hd at h ⊢; exact h
  | .int i, v, h => by unfold Hd at h ⊢; exact h
  | .str x, v, h => by unfold Hd at h ⊢; exact h
  | .tup ds, v, h => by
    unfold Hd at h ⊢
    obtain ⟨a, xs, h1, h2, h3⟩ := h
    exact ⟨a, xs, h1, e _ _ h2, Hds.mono e h3⟩
  | .lst ds, v, h => by
    unfold Hd at h ⊢
    obtain ⟨a, xs, h1, h2, h3⟩ := h
    exact ⟨a, xs, h1, e _ _ h2, Hds.mono e h3⟩
  | .dct kvs, v, h => by
    unfold Hd at h ⊢
    obtain ⟨a, ws, h1, h2, h3⟩ := h
    exact ⟨a, ws, h1, e _ _ h2, Hks.mono e h3⟩
  | .scr ns, v, h => by
    unfold Hd at h ⊢
    obtain ⟨a, h1, h2⟩ := h
    exact ⟨a, h1, e.seq h2⟩
  | .obj n fs, v, h => by
    unfold Hd at h ⊢
    obtain ⟨a, C, dx, ws, h1, h2, h3, h4⟩ := h
    exact ⟨a, C, dx, ws, h1, h2, e _ _ h3, Hfs.mono e h4⟩
theorem Hds.mono (e : Same H H') : ∀ {ds : List D} {xs : List V}, Hds g H ds xs → Hds g H' ds xs
  | [], xs, h => by unfold Hds at h ⊢; exact h
  | d :: ds, xs, h => by
    unfold Hds at h ⊢
    obtain ⟨v, vs, h1, h2, h3⟩ := h
    exact ⟨v, vs, h1, Hd.mono e h2, Hds.mono e h3⟩
theorem Hks.mono (e : Same H H') : ∀ {ds : List (Key × D)} {xs : List (Key × V)}, Hks g H ds xs → Hks g H' ds xs
  | [], xs, h => by unfold Hks at h ⊢; exact h
  | (k, d) :: ds, xs, h => by
    unfold Hks at h ⊢
    obtain ⟨v, vs, h1, h2, h3⟩ := h
    exact ⟨v, vs, h1, Hd.mono e h2, Hks.mono e h3⟩
theorem Hfs.mono (e : Same H H') : ∀ {ds : List (Str × D)} {xs : List (Str × V)}, Hfs g H ds xs → Hfs g H' ds xs
  | [], xs, h => by unfold Hfs at h ⊢; exact h
  | (k, d) :: ds, xs, h => by
    unfold Hfs at h ⊢
    obtain ⟨v, vs, h1, h2, h3⟩ := h
    exact ⟨v, vs, h1, Hd.mono e h2, Hfs.mono e h3⟩
end
end

/-! ### lists held -/
section
variable {g : Ga} {H : Hp}
theorem Hds.nil : Hds g H [] [] := by unfold Hds; rfl
theorem Hds.cons {d : D} {v : V} {ds : List D} {vs : List V} (h : Hd g H d v) (t : Hds g H ds vs) : Hds g H (d :: ds) (v :: vs) := by
  unfold Hds; exact ⟨v, vs, rfl, h, t⟩
theorem Hds.len : ∀ {ds : List D} {xs : List V}, Hds g H ds xs → ds.length = xs.length
  | [], xs, h => by unfold Hds at h; subst h; rfl
  | d :: ds, xs, h => by
    unfold Hds at h
    obtain ⟨v, vs, rfl, _, h3⟩ := h
    simp [Hds.len h3]
theorem Hds.get : ∀ {ds : List D} {xs : List V} {i : Nat} {d : D}, Hds g H ds xs → ds[i]? = some d → ∃ v, xs[i]? = some v ∧ Hd g H d v
  | [], xs, i, d, h, e => by simp at e
  | d0 :: ds, xs, 0, d, h, e => by
    unfold Hds at h
    obtain ⟨v, vs, rfl, h2, h3⟩ := h
    simp at e; subst e
    exact ⟨v, rfl, h2⟩
  | d0 :: ds, xs, i + 1, d, h, e => by
    unfold Hds at h
    obtain ⟨v, vs, rfl, h2, h3⟩ := h
    obtain ⟨u, h4, h5⟩ := Hds.get (i := i) (d := d) h3 (by simpa using e)
    exact ⟨u, by simpa using h4, h5⟩
theorem Hds.get' : ∀ {ds : List D} {xs : List V} {i : Nat} {v : V}, Hds g H ds xs → xs[i]? = some v → ∃ d, ds[i]? = some d ∧ Hd g H d v
  | [], xs, i, d, h, e => by unfold Hds at h; subst h; simp at e
  | d0 :: ds, xs, 0, d, h, e => by
    unfold Hds at h
    obtain ⟨v, vs, rfl, h2, h3⟩ := h
    simp at e; subst e
    exact ⟨_, rfl, h2⟩
  | d0 :: ds, xs, i + 1, d, h, e => by
    unfold Hds at h
    obtain ⟨v, vs, rfl, h2, h3⟩ := h
    obtain ⟨u, h4, h5⟩ := Hds.get' (i := i) (v := d) h3 (by simpa using e)
    exact ⟨u, by simpa using h4, h5⟩
theorem Hds.app : ∀ {ds es : List D} {xs ys : List V}, Hds g H ds xs → Hds g H es ys → Hds g H (ds ++ es) (xs ++ ys)
  | [], es, xs, ys, h, h' => by unfold Hds at h; subst h; exact h'
  | d :: ds, es, xs, ys, h, h' => by
    unfold Hds at h
    obtain ⟨v, vs, rfl, h2, h3⟩ := h
    exact .cons h2 (Hds.app h3 h')
theorem Hds.one {d : D} {v : V} (h : Hd g H d v) : Hds g H [d] [v] := .cons h .nil
theorem Hds.set : ∀ {ds : List D} {xs : List V} {d : D} {v : V} (i : Nat), Hds g H ds xs → Hd g H d v → Hds g H (ds.set i d) (xs.set i v)
  | [], xs, d, v, i, h, h' => by unfold Hds at h; subst h; exact .nil
  | d0 :: ds, xs, d, v, 0, h, h' => by
    unfold Hds at h
    obtain ⟨v0, vs, rfl, h2, h3⟩ := h
    exact .cons h' h3
  | d0 :: ds, xs, d, v, i + 1, h, h' => by
    unfold Hds at h
    obtain ⟨v0, vs, rfl, h2, h3⟩ := h
    exact .cons h2 (Hds.set i h3 h')
theorem Hds.take : ∀ {ds : List D} {xs : List V} (n : Nat), Hds g H ds xs → Hds g H (ds.take n) (xs.take n)
  | _, _, 0, _ => .nil
  | [], xs, n + 1, h => by unfold Hds at h; subst h; exact .nil
  | d0 :: ds, xs, n + 1, h => by
    unfold Hds at h
    obtain ⟨v0, vs, rfl, h2, h3⟩ := h
    exact .cons h2 (Hds.take n h3)
theorem Hds.drop : ∀ {ds : List D} {xs : List V} (n : Nat), Hds g H ds xs → Hds g H (ds.drop n) (xs.drop n)
  | _, _, 0, h => h
  | [], xs, n + 1, h => by unfold Hds at h; subst h; exact .nil
  | d0 :: ds, xs, n + 1, h => by
    unfold Hds at h
    obtain ⟨v0, vs, rfl, h2, h3⟩ := h
    exact Hds.drop n h3
theorem Hds.erase : ∀ {ds : List D} {xs : List V} (n : Nat), Hds g H ds xs → Hds g H (ds.eraseIdx n) (xs.eraseIdx n)
  | [], xs, n, h => by unfold Hds at h; subst h; simp; exact .nil
  | d0 :: ds, xs, 0, h => by
    unfold Hds at h
    obtain ⟨v0, vs, rfl, h2, h3⟩ := h
    exact h3
  | d0 :: ds, xs, n + 1, h => by
    unfold Hds at h
    obtain ⟨v0, vs, rfl, h2, h3⟩ := h
    exact .cons h2 (Hds.erase n h3)
theorem Hds.rep {d : D} {v : V} (h : Hd g H d v) : ∀ n, Hds g H (List.replicate n d) (List.replicate n v)
  | 0 => .nil
  | n + 1 => .cons h (Hds.rep h n)
theorem Hds.init {ds : List D} {xs : List V} (h : Hds g H ds xs) : Hds g H ds.dropLast xs.dropLast := by
  rw [List.dropLast_eq_take, List.dropLast_eq_take, h.len]; exact h.take _
end

/-! ### owned -/
def OwnF (g : Ga) (om : Om) (H : Hp) (l : Lab) : F → V → Prop
  | .fz d, v => Hd g (hide om H) d v
  | .lst ds, v => ∃ p xs, v = .ref p ∧ om p = some l ∧ H p = some (.lst xs) ∧ Hds g (hide om H) ds xs
  | .dct kvs, v => ∃ p ws, v = .ref p ∧ om p = some l ∧ H p = some (.dK ws) ∧ Hks g (hide om H) kvs ws
def OwnFs (g : Ga) (om : Om) (H : Hp) (l : Lab) : List (Str × F) → List (Str × V) → Prop
  | [], ws => ws = []
  | (f, o) :: fs, ws => ∃ v vs, ws = (f, v) :: vs ∧ OwnF g om H (.sub l f) o v ∧ OwnFs g om H l fs vs
def Own (g : Ga) (om : Om) (H : Hp) (l : Lab) : O → V → Prop
  | .lst ds, v => ∃ p xs, v = .ref p ∧ om p = some l ∧ H p = some (.lst xs) ∧ Hds g (hide om H) ds xs
  | .dct kvs, v => ∃ p ws, v = .ref p ∧ om p = some l ∧ H p = some (.dK ws) ∧ Hks g (hide om H) kvs ws
  | .obj n fs, v => ∃ p C dx ws, v = .ref p ∧ om p = some l ∧ g.mg n = some (.ref C) ∧ H p = some (.ins C dx ws) ∧ OwnFs g om H l fs ws

section
variable {g : Ga} {om om' : Om} {H H' : Hp}
/-- what is labelled under a root stays -/
def Stays (om : Om) (H : Hp) (om' : Om) (H' : Hp) (r : Lab) : Prop := ∀ a l, om a = some l → l.root = r → om' a = some l ∧ H' a = H a
theorem OwnF.mono {l r : Lab} (e : Same (hide om H) (hide om' H')) (k : Stays om H om' H' r) (hr : l.root = r) : ∀ {o : F} {v : V}, OwnF g om H l o v → OwnF g om' H' l o v
  | .fz d, v, h => Hd.mono e h
  | .lst ds, v, ⟨p, xs, h1, h2, h3, h4⟩ => ⟨p, xs, h1, (k _ _ h2 hr).1, by rw [(k _ _ h2 hr).2]; exact h3, h4.mono e⟩
  | .dct ds, v, ⟨p, xs, h1, h2, h3, h4⟩ => ⟨p, xs, h1, (k _ _ h2 hr).1, by rw [(k _ _ h2 hr).2]; exact h3, h4.mono e⟩
theorem OwnFs.mono {l r : Lab} (e : Same (hide om H) (hide om' H')) (k : Stays om H om' H' r) (hr : l.root = r) : ∀ {fs : List (Str × F)} {ws : List (Str × V)}, OwnFs g om H l fs ws → OwnFs g om' H' l fs ws
  | [], ws, h => h
  | (f, o) :: fs, ws, ⟨v, vs, h1, h2, h3⟩ => ⟨v, vs, h1, OwnF.mono (l := l.sub f) e k hr h2, OwnFs.mono e k hr h3⟩
theorem Own.mono {l r : Lab} (e : Same (hide om H) (hide om' H')) (k : Stays om H om' H' r) (hr : l.root = r) : ∀ {o : O} {v : V}, Own g om H l o v → Own g om' H' l o v
  | .lst ds, v, ⟨p, xs, h1, h2, h3, h4⟩ => ⟨p, xs, h1, (k _ _ h2 hr).1, by rw [(k _ _ h2 hr).2]; exact h3, h4.mono e⟩
  | .dct ds, v, ⟨p, xs, h1, h2, h3, h4⟩ => ⟨p, xs, h1, (k _ _ h2 hr).1, by rw [(k _ _ h2 hr).2]; exact h3, h4.mono e⟩
  | .obj n fs, v, ⟨p, C, dx, ws, h1, h2, h3, h4, h5⟩ => ⟨p, C, dx, ws, h1, (k _ _ h2 hr).1, h3, by rw [(k _ _ h2 hr).2]; exact h4, h5.mono e k hr⟩
/-- an owned thing laid cold -/
theorem OwnF.cold {l r : Lab} (e : Same (hide om H) (hide om' H')) (k : ∀ a l, om a = some l → l.root = r → om' a = none ∧ H' a = H a) (hr : l.root = r) : ∀ {o : F} {v : V}, OwnF g om H l o v → Hd g (hide om' H') o.cold v
  | .fz d, v, h => Hd.mono e h
  | .lst ds, v, ⟨p, xs, h1, h2, h3, h4⟩ => by
    unfold F.cold Hd
    exact ⟨p, xs, h1, (by rw [hide_of (k _ _ h2 hr).1, (k _ _ h2 hr).2]; exact h3), h4.mono e⟩
  | .dct ds, v, ⟨p, xs, h1, h2, h3, h4⟩ => by
    unfold F.cold Hd
    exact ⟨p, xs, h1, by rw [hide_of (k _ _ h2 hr).1, (k _ _ h2 hr).2]; exact h3, h4.mono e⟩
theorem OwnFs.cold {l r : Lab} (e : Same (hide om H) (hide om' H')) (k : ∀ a l, om a = some l → l.root = r → om' a = none ∧ H' a = H a) (hr : l.root = r) : ∀ {fs : List (Str × F)} {ws : List (Str × V)}, OwnFs g om H l fs ws → Hfs g (hide om' H') (fs.map fun p => (p.1, p.2.cold)) ws
  | [], ws, h => by unfold Hfs; exact h
  | (f, o) :: fs, ws, ⟨v, vs, h1, h2, h3⟩ => by
    show Hfs g (hide om' H') ((f, o.cold) :: fs.map fun p => (p.1, p.2.cold)) ws
    unfold Hfs
    exact ⟨v, vs, h1, OwnF.cold (l := l.sub f) e k hr h2, OwnFs.cold e k hr h3⟩
theorem Own.cold {l r : Lab} (e : Same (hide om H) (hide om' H')) (k : ∀ a l, om a = some l → l.root = r → om' a = none ∧ H' a = H a) (hr : l.root = r) : ∀ {o : O} {v : V}, Own g om H l o v → Hd g (hide om' H') o.cold v
  | .lst ds, v, ⟨p, xs, h1, h2, h3, h4⟩ => by
    unfold O.cold Hd
    exact ⟨p, xs, h1, (by rw [hide_of (k _ _ h2 hr).1, (k _ _ h2 hr).2]; exact h3), h4.mono e⟩
  | .dct ds, v, ⟨p, xs, h1, h2, h3, h4⟩ => by
    unfold O.cold Hd
    exact ⟨p, xs, h1, by rw [hide_of (k _ _ h2 hr).1, (k _ _ h2 hr).2]; exact h3, h4.mono e⟩
  | .obj n fs, v, ⟨p, C, dx, ws, h1, h2, h3, h4, h5⟩ => by
    unfold O.cold Hd
    exact ⟨p, C, dx, ws, h1, h3, by rw [hide_of (k _ _ h2 hr).1, (k _ _ h2 hr).2]; exact h4, h5.cold e k hr⟩
/-- in the full heap (a reader's view) -/
theorem hide_same : Same (hide om H) H := fun a o h => (hide_iff.mp h).2
end
end RC

set_option Elab.async false
set_option linter.all false
set_option maxRecDepth 100000
set_option maxHeartbeats 2000000
/-! R2: the relation of a frame to its mirror; readings; simple expressions. -/
namespace RC
open PySem PySem.Spec PyProof.Rows L2

inductive R where | fz (d : D) | tmp (o : O) | bor (l : Lab) (o : O)
/-- an operand -/
inductive P where | fz (d : D) | bor (l : Lab) (o : O)
structure Exc where
  cls : Str
  fs : Option (List (Str × D))
inductive Res (α : Type) where | ok (a : α) | rs (x : Exc) | stuck
inductive Fl where | nx (e : Env) | bk (e : Env) | ct (e : Env) | rt (r : R) (e : Env) | rs (x : Exc) (e : Env) | stuck
def Res.bind {α β : Type} (r : Res α) (f : α → Res β) : Res β := match r with
  | .ok a => f a
  | .rs x => .rs x
  | .stuck => .stuck
def Res.map {α β : Type} (r : Res α) (f : α → β) : Res β := match r with
  | .ok a => .ok (f a)
  | .rs x => .rs x
  | .stuck => .stuck
def Res.of {α : Type} : Option α → Res α
  | some a => .ok a
  | none => .stuck
def Lands {α : Type} (r : Res α) (A : α → Prop) (B : Exc → Prop) : Prop := match r with
  | .ok a => A a
  | .rs x => B x
  | .stuck => False
def R.op : R → P
  | .fz d => .fz d
  | .tmp o => .fz o.cold
  | .bor l o => .bor l o
def P.r : P → R
  | .fz d => .fz d
  | .bor l o => .bor l o

structure Zc where
  g : Ga
  om0 : Om
  H0 : Hp
  v0 : Option V

def SlotOk (g : Ga) (om : Om) (H : Hp) (w : Option (Option V)) (i : Nat) : S → Prop
  | .un => True
  | .fz d => ∃ v, w = some (some v) ∧ Hd g (hide om H) d v
  | .rd o => ∃ v l, w = some (some v) ∧ l.root = .amb ∧ Own g om H l o v
  | .ow o => ∃ v, w = some (some v) ∧ Own g om H (.slot i) o v
  | .mu o => ∃ v, w = some (some v) ∧ Own g om H (.slot i) o v

structure Keep (om : Om) (H : Hp) (om' : Om) (H' : Hp) : Prop where
  st : Same (hide om H) (hide om' H')
  am : Stays om H om' H' .amb
  ma : ∀ a l, om' a = some l → l.root = .amb → om a = some l
theorem Keep.refl (om : Om) (H : Hp) : Keep om H om H := ⟨Same.refl _, fun _ _ h _ => ⟨h, rfl⟩, fun _ _ h _ => h⟩
theorem Keep.trans {om om' om'' : Om} {H H' H'' : Hp} (a : Keep om H om' H') (b : Keep om' H' om'' H'') : Keep om H om'' H'' :=
  ⟨a.st.trans b.st, fun x l h r => by
    obtain ⟨h1, h2⟩ := a.am x l h r
    obtain ⟨h3, h4⟩ := b.am x l h1 r
    exact ⟨h3, h4.trans h2⟩, fun x l h r => a.ma x l (b.ma x l h r) r⟩

structure Rel (Z : Zc) (om : Om) (σ : L2.St) (H : Hp) (env : Env) : Prop where
  tr : ∀ a l, om a = some l → ∃ o, H a = some o
  nt : ∀ a l, om a = some l → l.root ≠ .tmp
  kp : Keep Z.om0 Z.H0 om H
  ln : σ.length = env.length
  sl : ∀ (i : Nat) s, env[i]? = some s → SlotOk Z.g om H (σ[i]?) i s
  mu : ∀ o, env[0]? = some (.mu o) → σ[0]? = some Z.v0

/-- new objects, some of them temporarily owned -/
structure New (om : Om) (H : Hp) (om' : Om) (H' : Hp) : Prop where
  ex : Same H H'
  old : ∀ a l, om a = some l → om' a = some l
  new : ∀ a l, om' a = some l → om a = some l ∨ (H a = none ∧ l.root = .tmp ∧ ∃ o, H' a = some o)
theorem New.same {om : Om} {H H' : Hp} (h : Same H H') : New om H om H' := ⟨h, fun _ _ e => e, fun _ _ e => .inl e⟩

def POk (g : Ga) (om : Om) (H : Hp) : P → V → Prop
  | .fz d, v => Hd g (hide om H) d v
  | .bor l o, v => l ≠ .tmp ∧ ∃ l', l'.root = l ∧ Own g om H l' o v
def ROk (g : Ga) (om : Om) (H : Hp) : R → V → Prop
  | .fz d, v => Hd g (hide om H) d v
  | .tmp o, v => Own g om H .tmp o v
  | .bor l o, v => l ≠ .tmp ∧ ∃ l', l'.root = l ∧ Own g om H l' o v
def PsOk (g : Ga) (om : Om) (H : Hp) : List P → List V → Prop
  | [], vs => vs = []
  | p :: ps, vs => ∃ v r, vs = v :: r ∧ POk g om H p v ∧ PsOk g om H ps r
def ExOk (g : Ga) (om : Om) (H : Hp) (x : Exc) (c : Value) (d : Option Addr) : Prop :=
  ∃ C, g.mg x.cls = some (.ref C) ∧ c = .ref C ∧ match x.fs with
    | none => d = none
    | some fs => ∃ dd ws, d = some dd ∧ H dd = some (.xd ws) ∧ Hfs g (hide om H) fs ws

section
variable {Z : Zc} {om om' : Om} {σ : L2.St} {H H' : Hp} {env : Env}
theorem hide_grow (e : Same H H') : Same (hide om H) (hide om H') := fun a o h => by
  obtain ⟨h1, h2⟩ := hide_iff.mp h
  exact hide_iff.mpr ⟨h1, e a o h2⟩
theorem stays_grow (tr : ∀ a l, om a = some l → ∃ o, H a = some o) (e : Same H H') (r : Lab) : Stays om H om H' r := fun a l h _ => by
  obtain ⟨o, q⟩ := tr a l h
  exact ⟨h, by rw [q]; exact e a o q⟩
theorem keep_grow (tr : ∀ a l, om a = some l → ∃ o, H a = some o) (e : Same H H') : Keep om H om H' :=
  ⟨hide_grow e, stays_grow tr e _, fun _ _ h _ => h⟩
theorem New.hide (n : New om H om' H') (tr : ∀ a l, om a = some l → ∃ o, H a = some o) : Same (hide om H) (RC.hide om' H') := fun a o h => by
  obtain ⟨h1, h2⟩ := hide_iff.mp h
  refine hide_iff.mpr ⟨?_, n.ex a o h2⟩
  cases q : om' a with
  | none => rfl
  | some l =>
    rcases n.new a l q with z | ⟨z, _⟩
    · rw [h1] at z; cases z
    · rw [h2] at z; cases z
theorem New.stays (n : New om H om' H') (tr : ∀ a l, om a = some l → ∃ o, H a = some o) (r : Lab) : Stays om H om' H' r := fun a l h _ => by
  obtain ⟨o, q⟩ := tr a l h
  exact ⟨n.old a l h, by rw [q]; exact n.ex a o q⟩
theorem New.keep (n : New om H om' H') (tr : ∀ a l, om a = some l → ∃ o, H a = some o) : Keep om H om' H' :=
  ⟨n.hide tr, n.stays tr _, fun a l h r => by
    rcases n.new a l h with z | ⟨_, z, _⟩
    · exact z
    · rw [r] at z; cases z⟩
/-- behind a new labelling the old one hides less -/
theorem New.back (n : New om H om' H') : Same (RC.hide om' H') (RC.hide om H') := fun a o h => by
  obtain ⟨h1, h2⟩ := hide_iff.mp h
  refine hide_iff.mpr ⟨?_, h2⟩
  cases q : om a with
  | none => rfl
  | some l => rw [n.old a l q] at h1; cases h1
theorem SlotOk.mono {g : Ga} {w : Option (Option V)} {i : Nat} (e : Same (RC.hide om H) (RC.hide om' H')) (k : ∀ r, r = .amb ∨ r = .slot i → Stays om H om' H' r) : ∀ {s : S}, SlotOk g om H w i s → SlotOk g om' H' w i s
  | .un, _ => trivial
  | .fz d, ⟨v, h1, h2⟩ => ⟨v, h1, h2.mono e⟩
  | .rd o, ⟨v, l, h1, hl, h2⟩ => ⟨v, l, h1, hl, h2.mono e (k _ (.inl rfl)) hl⟩
  | .ow o, ⟨v, h1, h2⟩ => ⟨v, h1, h2.mono e (k _ (.inr rfl)) rfl⟩
  | .mu o, ⟨v, h1, h2⟩ => ⟨v, h1, h2.mono e (k _ (.inr rfl)) rfl⟩
theorem Rel.grow (r : Rel Z om σ H env) (e : Same H H') : Rel Z om σ H' env :=
  ⟨fun a l h => by obtain ⟨o, q⟩ := r.tr a l h; exact ⟨o, e a o q⟩, r.nt, r.kp.trans (keep_grow r.tr e), r.ln,
    fun i s h => (r.sl i s h).mono (hide_grow e) fun _ _ => stays_grow r.tr e _, r.mu⟩
theorem POk.grow {g : Ga} (tr : ∀ a l, om a = some l → ∃ o, H a = some o) (e : Same H H') : ∀ {p : P} {v : V}, POk g om H p v → POk g om H' p v
  | .fz d, v, h => Hd.mono (hide_grow e) h
  | .bor l o, v, ⟨h1, l', hl, h2⟩ => ⟨h1, l', hl, h2.mono (hide_grow e) (stays_grow tr e _) hl⟩
theorem PsOk.grow {g : Ga} (tr : ∀ a l, om a = some l → ∃ o, H a = some o) (e : Same H H') : ∀ {p : List P} {v : List V}, PsOk g om H p v → PsOk g om H' p v
  | [], v, h => h
  | p :: ps, v, ⟨x, r, h1, h2, h3⟩ => ⟨x, r, h1, h2.grow tr e, PsOk.grow tr e h3⟩
theorem PsOk.len {g : Ga} : ∀ {p : List P} {v : List V}, PsOk g om H p v → p.length = v.length
  | [], v, h => by rw [show v = [] from h]; rfl
  | p :: ps, v, ⟨x, r, h1, h2, h3⟩ => by rw [h1]; simp [PsOk.len h3]
/-- an operand that is a list: its items -/
def P.lst? : P → Option (List D)
  | .fz (.lst ds) => some ds
  | .bor _ (.lst ds) => some ds
  | _ => none
def P.tup? : P → Option (List D)
  | .fz (.tup ds) => some ds
  | _ => none
def P.int? : P → Option Int
  | .fz (.int i) => some i
  | _ => none
def P.bl? : P → Option Bool
  | .fz (.bl i) => some i
  | _ => none
def P.str? : P → Option Str
  | .fz (.str i) => some i
  | _ => none
def P.d? : P → Option D
  | .fz d => some d
  | _ => none
theorem POk.lst {g : Ga} {p : P} {v : V} {ds : List D} (h : POk g om H p v) (e : p.lst? = some ds) : ∃ a xs, v = .ref a ∧ H a = some (.lst xs) ∧ Hds g (hide om H) ds xs := by
  cases p with
  | fz d =>
    cases d <;> simp [P.lst?] at e
    subst e
    simp only [POk, Hd] at h
    obtain ⟨a, xs, h1, h2, h3⟩ := h
    exact ⟨a, xs, h1, hide_same _ _ h2, h3⟩
  | bor l o =>
    cases o <;> simp [P.lst?] at e
    subst e
    obtain ⟨_, _, _, a, xs, h1, _, h2, h3⟩ := h
    exact ⟨a, xs, h1, h2, h3⟩
theorem POk.tup {g : Ga} {p : P} {v : V} {ds : List D} (h : POk g om H p v) (e : p.tup? = some ds) : ∃ a xs, v = .ref a ∧ H a = some (.tup xs) ∧ Hds g (hide om H) ds xs := by
  cases p with
  | fz d =>
    cases d <;> simp [P.tup?] at e
    subst e
    simp only [POk, Hd] at h
    obtain ⟨a, xs, h1, h2, h3⟩ := h
    exact ⟨a, xs, h1, hide_same _ _ h2, h3⟩
  | bor l o => simp [P.tup?] at e
theorem POk.d {g : Ga} {p : P} {v : V} {d : D} (h : POk g om H p v) (e : p.d? = some d) : Hd g (hide om H) d v := by
  cases p with
  | fz d' => simp [P.d?] at e; subst e; exact h
  | bor l o => simp [P.d?] at e
theorem POk.int {g : Ga} {p : P} {v : V} {i : Int} (h : POk g om H p v) (e : p.int? = some i) : v = .int i := by
  cases p with
  | fz d => cases d <;> simp [P.int?] at e; subst e; simpa [POk, Hd] using h
  | bor l o => simp [P.int?] at e
theorem POk.bl {g : Ga} {p : P} {v : V} {i : Bool} (h : POk g om H p v) (e : p.bl? = some i) : v = .bl i := by
  cases p with
  | fz d => cases d <;> simp [P.bl?] at e; subst e; simpa [POk, Hd] using h
  | bor l o => simp [P.bl?] at e
theorem POk.str {g : Ga} {p : P} {v : V} {i : Str} (h : POk g om H p v) (e : p.str? = some i) : v = .str i := by
  cases p with
  | fz d => cases d <;> simp [P.str?] at e; subst e; simpa [POk, Hd] using h
  | bor l o => simp [P.str?] at e
end

/-! ### readings by a mirror -/
def tP (Z : Zc) (W : WX) (m : Env → Res P) : TE := fun σ H Q => ∃ om env, Rel Z om σ H env ∧ Lands (m env) (fun r => ∀ v H', Same H H' → POk Z.g om H' r v → Q v H') (fun x => ∀ c d H', Same H H' → ExOk Z.g om H' x c d → W c d σ H')
def tO (Z : Zc) (W : WX) (m : Env → Res R) : TE := fun σ H Q => ∃ om env, Rel Z om σ H env ∧ Lands (m env) (fun r => ∀ v om' H', New om H om' H' → ROk Z.g om' H' r v → Q v H') (fun x => ∀ c d H', Same H H' → ExOk Z.g om H' x c d → W c d σ H')
def tB (Z : Zc) (W : WX) (m : Env → Res Bool) : TT := fun σ H Q => ∃ om env, Rel Z om σ H env ∧ Lands (m env) (fun b => ∀ H', Same H H' → Q b H') (fun x => ∀ c d H', Same H H' → ExOk Z.g om H' x c d → W c d σ H')
def tA (Z : Zc) (W : WX) (m : Env → Res (List P)) : TA := fun σ H Q => ∃ om env, Rel Z om σ H env ∧ Lands (m env) (fun r => ∀ vs H', Same H H' → PsOk Z.g om H' r vs → Q vs H') (fun x => ∀ c d H', Same H H' → ExOk Z.g om H' x c d → W c d σ H')

theorem _root_.L2.PE.pimp {X : Cx} {e : Expr} {t t' : TE} (h : PE X e t) (i : ∀ σ H Q, t' σ H Q → t σ H Q) : PE X e t' := ⟨fun pins s σ H Q I q => h.run pins s σ H Q I (i σ H Q q)⟩
theorem _root_.L2.PT.pimp {X : Cx} {e : Expr} {t t' : TT} (h : PT X e t) (i : ∀ σ H Q, t' σ H Q → t σ H Q) : PT X e t' := ⟨fun pins s σ H Q I q => h.run pins s σ H Q I (i σ H Q q)⟩
theorem _root_.L2.PA.pimp {X : Cx} {e : List Expr} {t t' : TA} (h : PA X e t) (i : ∀ σ H Q, t' σ H Q → t σ H Q) : PA X e t' := ⟨fun p pins s σ H Q I q => h.run p pins s σ H Q I (i σ H Q q)⟩
theorem _root_.L2.PS.pimp {X : Cx} {e : Stmt} {t t' : TS} (h : PS X e t) (i : ∀ D σ H, t' D σ H → t D σ H) : PS X e t' := ⟨fun pins s σ H D I q => h.run pins s σ H D I (i D σ H q)⟩
theorem _root_.L2.PSs.pimp {X : Cx} {e : List Stmt} {t t' : TS} (h : PSs X e t) (i : ∀ D σ H, t' D σ H → t D σ H) : PSs X e t' := ⟨fun pins s σ H D I q => h.run pins s σ H D I (i D σ H q)⟩

section
variable {X : Cx} {Z : Zc} {W : WX} {e a b : Expr} {pos : Pos}

def mOp (m : Env → Res R) : Env → Res P := fun env => (m env).map R.op
def mUp (m : Env → Res P) : Env → Res R := fun env => (m env).map P.r
theorem op_imp {m : Env → Res R} : ∀ σ H Q, tP Z W (mOp m) σ H Q → tO Z W m σ H Q := fun σ H Q ⟨om, env, r, q⟩ => by
  refine ⟨om, env, r, ?_⟩
  unfold mOp at q
  cases hm : m env with
  | stuck => rw [hm] at q; exact q
  | rs x => rw [hm] at q; exact q
  | ok x =>
    rw [hm] at q
    intro v om' H' n ro
    refine q v H' n.ex ?_
    cases x with
    | fz d => exact Hd.mono n.back ro
    | tmp o =>
      refine Own.cold (r := .tmp) n.back (fun a l h1 h2 => ⟨?_, rfl⟩) rfl ro
      rcases n.new a l h1 with z | ⟨z, _⟩
      · exact absurd h2 (r.nt a l z)
      · cases y : om a with
        | none => rfl
        | some l' => obtain ⟨o', y'⟩ := r.tr a l' y; rw [z] at y'; cases y'
    | bor l o =>
      obtain ⟨r1, l0, r2, r3⟩ := ro
      refine ⟨r1, l0, r2, r3.mono n.back (fun a l' h1 h2 => ⟨?_, rfl⟩) r2⟩
      rcases n.new a l' h1 with z | ⟨_, z, _⟩
      · exact z
      · exact absurd (h2.symm.trans z) r1
theorem c_op {m : Env → Res R} (h : PE X e (tO Z W m)) : PE X e (tP Z W (mOp m)) := h.pimp op_imp
theorem c_up {m : Env → Res P} (h : PE X e (tP Z W m)) : PE X e (tO Z W (mUp m)) := h.pimp fun σ H Q ⟨om, env, r, q⟩ => by
  refine ⟨om, env, r, ?_⟩
  unfold mUp at q
  cases hm : m env with
  | stuck => rw [hm] at q; exact q
  | rs x => rw [hm] at q; exact q
  | ok x =>
    rw [hm] at q
    intro v H' n ro
    refine q v om H' (.same n) ?_
    cases x with
    | fz d => exact ro
    | bor l o => exact ro

/-! names, constants -/
def mVar (i : Nat) : Env → Res P := fun env => match env[i]? with
  | some (.fz d) => .ok (.fz d)
  | some (.rd o) => .ok (.bor .amb o)
  | some (.ow o) => .ok (.bor (.slot i) o)
  | some (.mu o) => .ok (.bor (.slot i) o)
  | _ => .stuck
theorem r_var {i : Nat} {x : Str} (h : PE X (.Name x pos) (tVar i)) : PE X (.Name x pos) (tP Z W (mVar i)) := h.pimp fun σ H Q ⟨om, env, r, q⟩ => by
  unfold mVar at q
  cases he : env[i]? with
  | none => rw [he] at q; exact q.elim
  | some s =>
    rw [he] at q
    have h1 := r.sl i s he
    cases s with
    | un => exact q.elim
    | fz d => obtain ⟨v, h2, h3⟩ := h1; exact ⟨v, h2, q v H (Same.refl _) h3⟩
    | rd o => obtain ⟨v, l, h2, hl, h3⟩ := h1; exact ⟨v, h2, q v H (Same.refl _) ⟨(nomatch ·), l, hl, h3⟩⟩
    | ow o => obtain ⟨v, h2, h3⟩ := h1; exact ⟨v, h2, q v H (Same.refl _) ⟨(nomatch ·), _, rfl, h3⟩⟩
    | mu o => obtain ⟨v, h2, h3⟩ := h1; exact ⟨v, h2, q v H (Same.refl _) ⟨(nomatch ·), _, rfl, h3⟩⟩
def mC (d : D) : Env → Res P := fun _ => .ok (.fz d)
theorem r_c {v : V} {d : D} (h : PE X e (tC v)) (hd : ∀ H, Hd Z.g H d v) : PE X e (tP Z W (mC d)) := h.pimp fun σ H Q ⟨om, env, r, q⟩ => q v H (Same.refl _) (hd _)
theorem r_int {i : Int} {j : Nat} : PE X (.Constant (.int i) j pos) (tP Z W (mC (.int i))) := r_c pe_int fun _ => by unfold Hd; rfl
theorem r_bl {i : Bool} {j : Nat} : PE X (.Constant (.bool i) j pos) (tP Z W (mC (.bl i))) := r_c pe_bl fun _ => by unfold Hd; rfl
theorem r_str {i : Str} {j : Nat} : PE X (.Constant (.str i) j pos) (tP Z W (mC (.str i))) := r_c pe_str fun _ => by unfold Hd; rfl
theorem r_non {j : Nat} : PE X (.Constant .none j pos) (tP Z W (mC .non)) := r_c pe_non fun _ => by unfold Hd; rfl
/-- a module's number -/
theorem r_globI {x : Str} {i : Int} {tk : Tok} (hg : Gl X x) (hm : X.mg x = some (.int i tk)) (hd : (x == ("__debug__" : Str)) = false := by decide) : PE X (.Name x pos) (tP Z W (mC (.int i))) := r_c (pe_glob (v := .int i) hg hm ⟨_, rfl⟩ hd) fun _ => by unfold Hd; rfl
theorem r_globS {x : Str} {i : Str} {tk : Tok} (hg : Gl X x) (hm : X.mg x = some (.str i tk)) (hd : (x == ("__debug__" : Str)) = false := by decide) : PE X (.Name x pos) (tP Z W (mC (.str i))) := r_c (pe_glob (v := .str i) hg hm ⟨_, rfl⟩ hd) fun _ => by unfold Hd; rfl

/-! two operands -/
def m2 {α : Type} (k : P → P → Option α) (ma mb : Env → Res P) : Env → Res α := fun env => (ma env).bind fun x => (mb env).bind fun y => .of (k x y)
/-- two operands evaluated, then a rule on values -/
theorem two {ma mb : Env → Res P} {σ : L2.St} {H : Hp} {om : Om} {env : Env} {α : Type} {k : P → P → Option α} {B : α → Hp → Prop} {T : V → V → Hp → Prop} (r : Rel Z om σ H env)
    (q : Lands (m2 k ma mb env) (fun z => ∀ H', Same H H' → B z H') (fun x => ∀ c d H', Same H H' → ExOk Z.g om H' x c d → W c d σ H'))
    (f : ∀ x y v u H', Same H H' → Rel Z om σ H' env → POk Z.g om H' x v → POk Z.g om H' y u → ∀ z, k x y = some z → (∀ H'', Same H' H'' → B z H'') → T v u H') :
    tP Z W ma σ H fun v H1 => tP Z W mb σ H1 fun u H2 => T v u H2 := by
  unfold m2 at q
  refine ⟨om, env, r, ?_⟩
  cases ha : ma env with
  | stuck => rw [ha] at q; exact q
  | rs x => rw [ha] at q; exact q
  | ok x =>
    rw [ha] at q
    simp only [Res.bind] at q
    intro v H1 e1 p1
    refine ⟨om, env, r.grow e1, ?_⟩
    cases hb : mb env with
    | stuck => rw [hb] at q; exact q
    | rs x => rw [hb] at q; exact fun c d H' e2 => q c d H' (e1.trans e2)
    | ok y =>
      rw [hb] at q
      simp only [Res.bind] at q
      intro u H2 e2 p2
      cases hk : k x y with
      | none => rw [hk] at q; exact q.elim
      | some z =>
        rw [hk] at q
        simp only [Res.of] at q
        exact f x y v u H2 (e1.trans e2) (r.grow (e1.trans e2)) (p1.grow (r.grow e1).tr e2) p2 z hk fun H'' e3 => q H'' ((e1.trans e2).trans e3)
def one1 {α : Type} (k : P → Option α) (ma : Env → Res P) : Env → Res α := fun env => (ma env).bind fun x => .of (k x)
theorem one {ma : Env → Res P} {σ : L2.St} {H : Hp} {om : Om} {env : Env} {α : Type} {k : P → Option α} {B : α → Hp → Prop} {T : V → Hp → Prop} (r : Rel Z om σ H env)
    (q : Lands (one1 k ma env) (fun z => ∀ H', Same H H' → B z H') (fun x => ∀ c d H', Same H H' → ExOk Z.g om H' x c d → W c d σ H'))
    (f : ∀ x v H', Same H H' → Rel Z om σ H' env → POk Z.g om H' x v → ∀ z, k x = some z → (∀ H'', Same H' H'' → B z H'') → T v H') :
    tP Z W ma σ H fun v H1 => T v H1 := by
  unfold one1 at q
  refine ⟨om, env, r, ?_⟩
  cases ha : ma env with
  | stuck => rw [ha] at q; exact q
  | rs x => rw [ha] at q; exact q
  | ok x =>
    rw [ha] at q
    simp only [Res.bind] at q
    intro v H1 e1 p1
    cases hk : k x with
    | none => rw [hk] at q; exact q.elim
    | some z =>
      rw [hk] at q
      simp only [Res.of] at q
      exact f x v H1 e1 (r.grow e1) p1 z hk fun H'' e3 => q H'' (e1.trans e3)
/-- the answer as an operand -/
theorem q_fz {α : Type} {m : Env → Res α} {mk : α → D} {σ : L2.St} {H : Hp} {om : Om} {env : Env} {Q : VK} (q : Lands (((m env).map fun z => P.fz (mk z))) (fun r => ∀ v H', Same H H' → POk Z.g om H' r v → Q v H') (fun x => ∀ c d H', Same H H' → ExOk Z.g om H' x c d → W c d σ H')) : Lands (m env) (fun z => ∀ H', Same H H' → ∀ v, Hd Z.g (hide om H') (mk z) v → Q v H') (fun x => ∀ c d H', Same H H' → ExOk Z.g om H' x c d → W c d σ H') := by
  cases h : m env with
  | stuck => rw [h] at q; exact q
  | rs x => rw [h] at q; exact q
  | ok z => rw [h] at q; exact fun H' e v hv => q v H' e hv

/-! ints -/
def kI {α : Type} (f : Int → Int → Option α) : P → P → Option α := fun x y => match x.int?, y.int? with
  | some i, some j => f i j
  | _, _ => none
theorem kI_some {α : Type} {f : Int → Int → Option α} {x y : P} {z : α} (h : kI f x y = some z) : ∃ i j, x.int? = some i ∧ y.int? = some j ∧ f i j = some z := by
  unfold kI at h
  split at h
  · rename_i i j h1 h2; exact ⟨i, j, h1, h2, h⟩
  · cases h
def mI (f : Int → Int → Option Int) (ma mb : Env → Res P) : Env → Res P := fun env => (m2 (kI f) ma mb env).map fun z => .fz (.int z)
theorem r_I {op : Operator} {r : R2} {f : Int → Int → Option Int} {ma mb : Env → Res P} (ho : OpR X (binaryOp op) r) (hr : ∀ i j z H (Q : VK), f i j = some z → Q (.int z) H → r (.int i) (.int j) H Q)
    (ha : PE X a (tP Z W ma)) (hb : PE X b (tP Z W mb)) : PE X (.BinOp a op b pos) (tP Z W (mI f ma mb)) := (pe_op ho ha hb).pimp fun σ H Q ⟨om, env, rl, q⟩ => by
  refine two rl (q_fz q) fun x y v u H' e rl' p1 p2 z hk qz => ?_
  obtain ⟨i, j, h1, h2, h3⟩ := kI_some hk
  rw [p1.int h1, p2.int h2]
  exact hr i j z H' Q h3 (qz H' (Same.refl _) _ (by unfold Hd; rfl))
def iAdd (i j : Int) : Option Int := some (i + j)
def iSub (i j : Int) : Option Int := some (i - j)
instance (i j : Int) : Decidable (CMul i j) := by unfold CMul; infer_instance
instance (i j : Int) : Decidable (CDiv i j) := by unfold CDiv; infer_instance
def iMul (i j : Int) : Option Int := if (-18446744073709551616 < i ∧ i < 18446744073709551616) ∨ (-18446744073709551616 < j ∧ j < 18446744073709551616) then some (i * j) else none
def iDiv (i j : Int) : Option Int := if 0 < j ∧ j < 1073741824 then some (i / j) else none
def iMod (i j : Int) : Option Int := if 0 < j then some (i % j) else none
end
end RC

set_option Elab.async false
set_option linter.all false
set_option maxRecDepth 100000
set_option maxHeartbeats 2000000
/-! R3: operators, comparisons, tests, items, slices, displays. -/
namespace RC
open PySem PySem.Spec PyProof.Rows L2

structure Kx (X : Cx) (Z : Zc) (W : WX) : Prop where
  gK : Z.g.K = X.K
  gm : Z.g.mg = X.mg
  calm : X.calm = true
  hu : X.A.units + 64 < cLine
  esc : ∀ σ, PassesAt (L2.CX X.prog X.w) X σ (WE W σ)
  nd : X.N.Nodup

section
variable {X : Cx} {Z : Zc} {W : WX} {e a b c : Expr} {pos p2 : Pos} {ma mb : RC.Env → Res P}

def kI1 {α : Type} (f : Int → Option α) : P → Option α := fun x => match x.int? with
  | some i => f i
  | none => none
theorem kI1_some {α : Type} {f : Int → Option α} {x : P} {z : α} (h : kI1 f x = some z) : ∃ i, x.int? = some i ∧ f i = some z := by
  unfold kI1 at h
  split at h
  · rename_i i h1; exact ⟨i, h1, h⟩
  · cases h
def iPow (i j : Int) : Option Int := if 0 ≤ j ∧ j ≤ 1000000 ∧ i.natAbs < 18446744073709551616 then some (i ^ j.toNat) else none
def iNeg (i : Int) : Option Int := some (-i)
theorem r_add (ha : PE X a (tP Z W ma)) (hb : PE X b (tP Z W mb)) : PE X (.BinOp a .Add b pos) (tP Z W (mI iAdd ma mb)) :=
  r_I op_add (fun i j z H Q h q => by cases h; exact ⟨i, j, rfl, rfl, q⟩) ha hb
theorem r_sub (ha : PE X a (tP Z W ma)) (hb : PE X b (tP Z W mb)) : PE X (.BinOp a .Sub b pos) (tP Z W (mI iSub ma mb)) :=
  r_I op_sub (fun i j z H Q h q => by cases h; exact ⟨i, j, rfl, rfl, q⟩) ha hb
theorem r_mul (ha : PE X a (tP Z W ma)) (hb : PE X b (tP Z W mb)) : PE X (.BinOp a .Mult b pos) (tP Z W (mI iMul ma mb)) :=
  r_I op_mul (fun i j z H Q h q => by unfold iMul at h; split at h <;> cases h; rename_i hc; exact ⟨i, j, rfl, rfl, hc, q⟩) ha hb
theorem r_div (ha : PE X a (tP Z W ma)) (hb : PE X b (tP Z W mb)) : PE X (.BinOp a .FloorDiv b pos) (tP Z W (mI iDiv ma mb)) :=
  r_I op_fdiv (fun i j z H Q h q => by unfold iDiv at h; split at h <;> cases h; rename_i hc; exact ⟨i, j, rfl, rfl, hc, q⟩) ha hb
theorem r_mod (ha : PE X a (tP Z W ma)) (hb : PE X b (tP Z W mb)) : PE X (.BinOp a .Mod b pos) (tP Z W (mI iMod ma mb)) :=
  r_I op_mod (fun i j z H Q h q => by unfold iMod at h; split at h <;> cases h; rename_i hc; exact ⟨i, j, rfl, rfl, hc, q⟩) ha hb
theorem r_pow (ha : PE X a (tP Z W ma)) (hb : PE X b (tP Z W mb)) : PE X (.BinOp a .Pow b pos) (tP Z W (mI iPow ma mb)) :=
  r_I op_pow (fun i j z H Q h q => by unfold iPow at h; split at h <;> cases h; rename_i hc; exact ⟨i, j, rfl, rfl, hc, q⟩) ha hb
def mNeg (ma : RC.Env → Res P) : RC.Env → Res P := fun env => (one1 (kI1 iNeg) ma env).map fun z => .fz (.int z)
theorem r_neg (ha : PE X a (tP Z W ma)) : PE X (.UnaryOp .USub a pos) (tP Z W (mNeg ma)) := (pe_un un_neg ha).pimp fun σ H Q ⟨om, env, rl, q⟩ => by
  refine one rl (q_fz q) fun x v H' e rl' p1 z hk qz => ?_
  obtain ⟨i, h1, h2⟩ := kI1_some hk
  rw [p1.int h1]
  cases h2
  exact ⟨i, rfl, qz H' (Same.refl _) _ (by unfold Hd; rfl)⟩

/-! comparisons: as tests, as values -/
def mBl (m : RC.Env → Res Bool) : RC.Env → Res P := fun env => (m env).map fun z => .fz (.bl z)
theorem t_cmp {op : CmpOp} {r : R2} {k : P → P → Option Bool} (ho : OpR X (compareOp op) r) (hm : behindInMarks op b = false)
    (hr : ∀ om H x y v u z (Q : VK), POk Z.g om H x v → POk Z.g om H y u → k x y = some z → Q (.bl z) H → r v u H Q)
    (ha : PE X a (tP Z W ma)) (hb : PE X b (tP Z W mb)) : PT X (.Compare a [op] [b] pos) (tB Z W (m2 k ma mb)) := (pt_cmpR ho ha hb hm).pimp fun σ H Q ⟨om, env, rl, q⟩ => by
  refine two (k := k) (B := Q) (T := fun v u H' => r v u H' fun x H' => ∃ k, x = .bl k ∧ Q k H') rl q fun x y v u H' e rl' p1 p2 z hk qz => ?_
  exact hr om H' x y v u z _ p1 p2 hk ⟨z, rfl, qz H' (Same.refl _)⟩
theorem v_cmp {op : CmpOp} {r : R2} {k : P → P → Option Bool} (ho : OpR X (compareOp op) r) (hm : behindInMarks op b = false)
    (hr : ∀ om H x y v u z (Q : VK), POk Z.g om H x v → POk Z.g om H y u → k x y = some z → Q (.bl z) H → r v u H Q)
    (ha : PE X a (tP Z W ma)) (hb : PE X b (tP Z W mb)) : PE X (.Compare a [op] [b] pos) (tP Z W (mBl (m2 k ma mb))) := (pe_cmpR ho ha hb hm).pimp fun σ H Q ⟨om, env, rl, q⟩ => by
  refine two rl (q_fz q) fun x y v u H' e rl' p1 p2 z hk qz => ?_
  exact hr om H' x y v u z _ p1 p2 hk (qz H' (Same.refl _) _ (by unfold Hd; rfl))
def kLt : P → P → Option Bool := kI fun i j => some (decide (i < j))
def kLe : P → P → Option Bool := kI fun i j => some (decide (i ≤ j))
def kGt : P → P → Option Bool := kI fun i j => some (decide (j < i))
def kGe : P → P → Option Bool := kI fun i j => some (decide (j ≤ i))
theorem cmpI {f : Int → Int → Bool} : ∀ om H x y v u z (Q : VK), POk Z.g om H x v → POk Z.g om H y u → kI (fun i j => some (f i j)) x y = some z → Q (.bl z) H → rI0 (fun i j => .bl (f i j)) v u H Q := fun om H x y v u z Q p1 p2 hk q => by
  obtain ⟨i, j, h1, h2, h3⟩ := kI_some hk
  cases h3
  exact ⟨i, j, p1.int h1, p2.int h2, q⟩
theorem t_lt (ha : PE X a (tP Z W ma)) (hb : PE X b (tP Z W mb)) : PT X (.Compare a [.Lt] [b] pos) (tB Z W (m2 kLt ma mb)) := t_cmp op_lt (nomark _) cmpI ha hb
theorem t_le (ha : PE X a (tP Z W ma)) (hb : PE X b (tP Z W mb)) : PT X (.Compare a [.LtE] [b] pos) (tB Z W (m2 kLe ma mb)) := t_cmp op_le (nomark _) cmpI ha hb
theorem t_gt (ha : PE X a (tP Z W ma)) (hb : PE X b (tP Z W mb)) : PT X (.Compare a [.Gt] [b] pos) (tB Z W (m2 kGt ma mb)) := t_cmp op_gt (nomark _) cmpI ha hb
theorem t_ge (ha : PE X a (tP Z W ma)) (hb : PE X b (tP Z W mb)) : PT X (.Compare a [.GtE] [b] pos) (tB Z W (m2 kGe ma mb)) := t_cmp op_ge (nomark _) cmpI ha hb
theorem v_lt (ha : PE X a (tP Z W ma)) (hb : PE X b (tP Z W mb)) : PE X (.Compare a [.Lt] [b] pos) (tP Z W (mBl (m2 kLt ma mb))) := v_cmp op_lt (nomark _) cmpI ha hb
theorem v_le (ha : PE X a (tP Z W ma)) (hb : PE X b (tP Z W mb)) : PE X (.Compare a [.LtE] [b] pos) (tP Z W (mBl (m2 kLe ma mb))) := v_cmp op_le (nomark _) cmpI ha hb
theorem v_gt (ha : PE X a (tP Z W ma)) (hb : PE X b (tP Z W mb)) : PE X (.Compare a [.Gt] [b] pos) (tP Z W (mBl (m2 kGt ma mb))) := v_cmp op_gt (nomark _) cmpI ha hb
theorem v_ge (ha : PE X a (tP Z W ma)) (hb : PE X b (tP Z W mb)) : PE X (.Compare a [.GtE] [b] pos) (tP Z W (mBl (m2 kGe ma mb))) := v_cmp op_ge (nomark _) cmpI ha hb

/-! == of data -/
mutual
def D.pd : D → Option PyData
  | .non => some .none
  | .bl b => some (.bool b)
  | .int i => some (.int i)
  | .str x => some (.str x)
  | .tup ds => match pds ds with
    | some ps => some (.tuple ps)
    | none => none
  | .lst ds => match pds ds with
    | some ps => some (.list ps)
    | none => none
  | .dct _ => none
  | .obj _ _ => none
  | .scr _ => none
def pds : List D → Option (List PyData)
  | [] => some []
  | d :: ds => match d.pd, pds ds with
    | some p, some ps => some (p :: ps)
    | _, _ => none
end
mutual
theorem D.dp {g : Ga} {H : Hp} : ∀ {d : D} {v : V} {p : PyData}, Hd g H d v → d.pd = some p → Dp g.K H v p
  | .non, v, p, h, e => by simp only [Hd] at h; simp only [D.pd, Option.some.injEq] at e; subst h e; exact .non
  | .bl b, v, p, h, e => by simp only [Hd] at h; simp only [D.pd, Option.some.injEq] at e; subst h e; exact .bl b
  | .int b, v, p, h, e => by simp only [Hd] at h; simp only [D.pd, Option.some.injEq] at e; subst h e; exact .int b
  | .str b, v, p, h, e => by simp only [Hd] at h; simp only [D.pd, Option.some.injEq] at e; subst h e; exact .str b
  | .tup ds, v, p, h, e => by
    simp only [Hd] at h
    obtain ⟨a, xs, rfl, h1, h2⟩ := h
    unfold D.pd at e
    split at e
    · rename_i ps hp
      cases e
      exact .tup (SqT.of h1) (pds_dp h2 hp)
    · cases e
  | .lst ds, v, p, h, e => by
    simp only [Hd] at h
    obtain ⟨a, xs, rfl, h1, h2⟩ := h
    unfold D.pd at e
    split at e
    · rename_i ps hp
      cases e
      exact .lst (SqL.of h1) (pds_dp h2 hp)
    · cases e
  | .dct _, v, p, h, e => by simp [D.pd] at e
  | .obj _ _, v, p, h, e => by simp [D.pd] at e
  | .scr _, v, p, h, e => by simp [D.pd] at e
theorem pds_dp {g : Ga} {H : Hp} : ∀ {ds : List D} {xs : List V} {ps : List PyData}, Hds g H ds xs → pds ds = some ps → DpAll g.K H xs ps
  | [], xs, ps, h, e => by unfold Hds at h; simp only [pds, Option.some.injEq] at e; subst h e; exact .nil
  | d :: ds, xs, ps, h, e => by
    unfold Hds at h
    obtain ⟨v, vs, rfl, h1, h2⟩ := h
    unfold pds at e
    split at e
    · rename_i p ps' hp hps
      cases e
      exact .cons (D.dp h1 hp) (pds_dp h2 hps)
    · cases e
end
def P.pd : P → Option PyData
  | .fz d => d.pd
  | .bor _ (.lst ds) => D.pd (.lst ds)
  | .bor _ _ => none
theorem POk.dp {g : Ga} {om : Om} {H : Hp} {x : P} {v : V} {p : PyData} (h : POk g om H x v) (e : x.pd = some p) : Dp g.K H v p := by
  cases x with
  | fz d => exact D.dp (Hd.mono hide_same h) e
  | bor l o =>
    cases o with
    | lst ds =>
      obtain ⟨_, _, _, a, xs, h1, _, h2, h3⟩ := h
      refine D.dp (d := .lst ds) ?_ e
      unfold Hd
      exact ⟨a, xs, h1, h2, h3.mono hide_same⟩
    | dct _ => simp [P.pd] at e
    | obj _ _ => simp [P.pd] at e
def kEq (x y : P) : Option Bool := match x.pd, y.pd with
  | some d, some e => if SeqAt.shaped d = true ∧ SeqAt.shaped e = true then some (PyData.eqv d e) else none
  | _, _ => none
def kNe (x y : P) : Option Bool := (kEq x y).map Bool.not
theorem kEq_some {x y : P} {z : Bool} (h : kEq x y = some z) : ∃ d e, x.pd = some d ∧ y.pd = some e ∧ SeqAt.shaped d = true ∧ SeqAt.shaped e = true ∧ PyData.eqv d e = z := by
  unfold kEq at h
  split at h
  · rename_i d e h1 h2
    split at h
    · rename_i h3
      exact ⟨d, e, h1, h2, h3.1, h3.2, by simpa using h⟩
    · cases h
  · cases h
theorem cmpEq (kx : Kx X Z W) : ∀ om H x y v u z (Q : VK), POk Z.g om H x v → POk Z.g om H y u → kEq x y = some z → Q (.bl z) H → rEqD X.K v u H Q := fun om H x y v u z Q p1 p2 hk q => by
  obtain ⟨d, e, h1, h2, h3, h4, h5⟩ := kEq_some hk
  subst h5
  rw [← kx.gK]
  exact ⟨d, e, p1.dp h1, p2.dp h2, h3, h4, q⟩
theorem cmpNe (kx : Kx X Z W) : ∀ om H x y v u z (Q : VK), POk Z.g om H x v → POk Z.g om H y u → kNe x y = some z → Q (.bl z) H → rNeD X.K v u H Q := fun om H x y v u z Q p1 p2 hk q => by
  unfold kNe at hk
  cases hk' : kEq x y with
  | none => rw [hk'] at hk; cases hk
  | some z' =>
    rw [hk'] at hk
    cases hk
    obtain ⟨d, e, h1, h2, h3, h4, h5⟩ := kEq_some hk'
    subst h5
    rw [← kx.gK]
    exact ⟨d, e, p1.dp h1, p2.dp h2, h3, h4, q⟩
theorem t_eq (kx : Kx X Z W) (ha : PE X a (tP Z W ma)) (hb : PE X b (tP Z W mb)) : PT X (.Compare a [.Eq] [b] pos) (tB Z W (m2 kEq ma mb)) := t_cmp (op_eqD kx.hu) (nomark _) (cmpEq kx) ha hb
theorem v_eq (kx : Kx X Z W) (ha : PE X a (tP Z W ma)) (hb : PE X b (tP Z W mb)) : PE X (.Compare a [.Eq] [b] pos) (tP Z W (mBl (m2 kEq ma mb))) := v_cmp (op_eqD kx.hu) (nomark _) (cmpEq kx) ha hb
theorem t_ne (kx : Kx X Z W) (ha : PE X a (tP Z W ma)) (hb : PE X b (tP Z W mb)) : PT X (.Compare a [.NotEq] [b] pos) (tB Z W (m2 kNe ma mb)) := t_cmp (op_neD kx.hu) (nomark _) (cmpNe kx) ha hb
theorem v_ne (kx : Kx X Z W) (ha : PE X a (tP Z W ma)) (hb : PE X b (tP Z W mb)) : PE X (.Compare a [.NotEq] [b] pos) (tP Z W (mBl (m2 kNe ma mb))) := v_cmp (op_neD kx.hu) (nomark _) (cmpNe kx) ha hb

/-! in -/
def D.fv : D → Option V
  | .non => some .non
  | .bl b => some (.bl b)
  | .int i => some (.int i)
  | .str x => some (.str x)
  | _ => none
def fvs : List D → Option (List V)
  | [] => some []
  | d :: ds => match d.fv, fvs ds with
    | some p, some ps => some (p :: ps)
    | _, _ => none
theorem D.fv_ok {g : Ga} {H : Hp} {d : D} {v w : V} (h : Hd g H d v) (e : d.fv = some w) : v = w ∧ flatV w = true := by
  cases d <;> simp only [D.fv, Option.some.injEq, reduceCtorEq] at e <;> subst e <;> simp only [Hd] at h <;> exact ⟨h, rfl⟩
theorem fvs_ok {g : Ga} {H : Hp} : ∀ {ds : List D} {vs ws : List V}, Hds g H ds vs → fvs ds = some ws → vs = ws ∧ ws.all flatV = true
  | [], vs, ws, h, e => by unfold Hds at h; simp only [fvs, Option.some.injEq] at e; subst h e; exact ⟨rfl, rfl⟩
  | d :: ds, vs, ws, h, e => by
    unfold Hds at h
    obtain ⟨v, r, rfl, h1, h2⟩ := h
    unfold fvs at e
    split at e
    · rename_i p ps hp hps
      cases e
      obtain ⟨e1, f1⟩ := D.fv_ok h1 hp
      obtain ⟨e2, f2⟩ := fvs_ok h2 hps
      subst e1 e2
      exact ⟨rfl, by simp [f1, f2]⟩
    · cases e
def P.seq? (p : P) : Option (List D) := match p.lst? with
  | some ds => some ds
  | none => p.tup?
theorem POk.seq {g : Ga} {om : Om} {H : Hp} {p : P} {v : V} {ds : List D} (h : POk g om H p v) (e : p.seq? = some ds) : ∃ a xs, v = .ref a ∧ (SqL g.K H a xs ∨ SqT g.K H a xs) ∧ Hds g (hide om H) ds xs := by
  unfold P.seq? at e
  split at e
  · rename_i ds' h1
    cases e
    obtain ⟨a, xs, e1, e2, e3⟩ := h.lst h1
    exact ⟨a, xs, e1, .inl (SqL.of e2), e3⟩
  · obtain ⟨a, xs, e1, e2, e3⟩ := h.tup e
    exact ⟨a, xs, e1, .inr (SqT.of e2), e3⟩
def kIn (x y : P) : Option Bool := match x.d?, y.seq? with
  | some d, some ds => match d.fv, fvs ds with
    | some v, some vs => some (inV v vs)
    | _, _ => none
  | _, _ => none
def kNi (x y : P) : Option Bool := (kIn x y).map Bool.not
theorem kIn_some {x y : P} {z : Bool} (h : kIn x y = some z) : ∃ d ds v vs, x.d? = some d ∧ y.seq? = some ds ∧ d.fv = some v ∧ fvs ds = some vs ∧ inV v vs = z := by
  unfold kIn at h
  split at h
  · rename_i d ds h1 h2
    split at h
    · rename_i v vs h3 h4
      exact ⟨d, ds, v, vs, h1, h2, h3, h4, by simpa using h⟩
    · cases h
  · cases h
theorem cmpIn {neg : Bool} (kx : Kx X Z W) : ∀ om H x y v u z (Q : VK), POk Z.g om H x v → POk Z.g om H y u → kIn x y = some z → Q (.bl (if neg then !z else z)) H → rIn X.K neg v u H Q := fun om H x y v u z Q p1 p2 hk q => by
  obtain ⟨d, ds, w, ws, h1, h2, h3, h4, h5⟩ := kIn_some hk
  subst h5
  obtain ⟨e1, f1⟩ := D.fv_ok (p1.d h1) h3
  obtain ⟨p, xs, e2, e3, e4⟩ := p2.seq h2
  obtain ⟨e5, f2⟩ := fvs_ok e4 h4
  subst e1 e5
  rw [kx.gK] at e3
  exact ⟨p, xs, e2, e3, f1, f2, q⟩
theorem t_in (kx : Kx X Z W) (ha : PE X a (tP Z W ma)) (hb : PE X b (tP Z W mb)) (hm : behindInMarks .In b = false := by rfl) : PT X (.Compare a [.In] [b] pos) (tB Z W (m2 kIn ma mb)) :=
  t_cmp op_in_seq hm (fun om H x y v u z Q p1 p2 hk q => cmpIn (neg := false) kx om H x y v u z Q p1 p2 hk q) ha hb
theorem v_in (kx : Kx X Z W) (ha : PE X a (tP Z W ma)) (hb : PE X b (tP Z W mb)) (hm : behindInMarks .In b = false := by rfl) : PE X (.Compare a [.In] [b] pos) (tP Z W (mBl (m2 kIn ma mb))) :=
  v_cmp op_in_seq hm (fun om H x y v u z Q p1 p2 hk q => cmpIn (neg := false) kx om H x y v u z Q p1 p2 hk q) ha hb
theorem kNi_some {x y : P} {z : Bool} (h : kNi x y = some z) : kIn x y = some (!z) := by
  unfold kNi at h
  cases hk : kIn x y with
  | none => rw [hk] at h; cases h
  | some z' => rw [hk] at h; cases h; simp
theorem t_ni (kx : Kx X Z W) (ha : PE X a (tP Z W ma)) (hb : PE X b (tP Z W mb)) (hm : behindInMarks .NotIn b = false := by rfl) : PT X (.Compare a [.NotIn] [b] pos) (tB Z W (m2 kNi ma mb)) :=
  t_cmp op_notIn_seq hm (fun om H x y v u z Q p1 p2 hk q => cmpIn (neg := true) kx om H x y v u (!z) Q p1 p2 (kNi_some hk) (by simpa using q)) ha hb
theorem v_ni (kx : Kx X Z W) (ha : PE X a (tP Z W ma)) (hb : PE X b (tP Z W mb)) (hm : behindInMarks .NotIn b = false := by rfl) : PE X (.Compare a [.NotIn] [b] pos) (tP Z W (mBl (m2 kNi ma mb))) :=
  v_cmp op_notIn_seq hm (fun om H x y v u z Q p1 p2 hk q => cmpIn (neg := true) kx om H x y v u (!z) Q p1 p2 (kNi_some hk) (by simpa using q)) ha hb

/-! is None -/
def P.isN : P → Option Bool
  | .fz .non => some true
  | .fz _ => some false
  | .bor _ _ => some false
theorem POk.isN {g : Ga} {om : Om} {H : Hp} {p : P} {v : V} {z : Bool} (h : POk g om H p v) (e : p.isN = some z) : decide (v = .non) = z := by
  cases p with
  | fz d =>
    cases d <;> simp only [P.isN, Option.some.injEq] at e <;> subst e <;> simp only [POk, Hd] at h
    · simp [h]
    · simp [h]
    · simp [h]
    · simp [h]
    · obtain ⟨a, xs, h, _⟩ := h; simp [h]
    · obtain ⟨a, xs, h, _⟩ := h; simp [h]
    · obtain ⟨a, xs, h, _⟩ := h; simp [h]
    · obtain ⟨a, _, _, _, h, _⟩ := h; simp [h]
    · obtain ⟨a, h, _⟩ := h; simp [h]
  | bor l o =>
    simp only [P.isN, Option.some.injEq] at e
    subst e
    cases o with
    | lst ds => obtain ⟨_, _, _, a, xs, h, _⟩ := h; simp [h]
    | dct ds => obtain ⟨_, _, _, a, xs, h, _⟩ := h; simp [h]
    | obj n fs => obtain ⟨_, _, _, a, _, _, _, h, _⟩ := h; simp [h]
def kIs (x _y : P) : Option Bool := x.isN
def kIsn (x _y : P) : Option Bool := x.isN.map Bool.not
theorem t_isN {j : Nat} {p3 : Pos} (ha : PE X a (tP Z W ma)) : PT X (.Compare a [.Is] [.Constant .none j p3] pos) (tB Z W (one1 P.isN ma)) :=
  (pt_cmpR op_isN ha pe_non (nomark _)).pimp fun σ H Q ⟨om, env, rl, q⟩ => by
    refine one (k := P.isN) (B := Q) (T := fun v H' => V.non = V.non ∧ ∃ k, V.bl (decide (v = .non)) = .bl k ∧ Q k H') rl q fun x v H' e rl' p1 z hk qz => ?_
    exact ⟨rfl, z, by rw [p1.isN hk], qz H' (Same.refl _)⟩
theorem t_nonN {j : Nat} {p3 : Pos} (ha : PE X a (tP Z W ma)) : PT X (.Compare a [.IsNot] [.Constant .none j p3] pos) (tB Z W (one1 (fun p => p.isN.map Bool.not) ma)) :=
  (pt_cmpR op_notN ha pe_non (nomark _)).pimp fun σ H Q ⟨om, env, rl, q⟩ => by
    refine one (k := fun p => p.isN.map Bool.not) (B := Q) (T := fun v H' => V.non = V.non ∧ ∃ k, V.bl (!decide (v = .non)) = .bl k ∧ Q k H') rl q fun x v H' e rl' p1 z hk qz => ?_
    cases hz : x.isN with
    | none => rw [hz] at hk; cases hk
    | some z' => rw [hz] at hk; cases hk; exact ⟨rfl, _, by rw [p1.isN hz], qz H' (Same.refl _)⟩
theorem v_isN {j : Nat} {p3 : Pos} (ha : PE X a (tP Z W ma)) : PE X (.Compare a [.Is] [.Constant .none j p3] pos) (tP Z W (mBl (one1 P.isN ma))) :=
  (pe_cmpR op_isN ha pe_non (nomark _)).pimp fun σ H Q ⟨om, env, rl, q⟩ => by
    refine one (T := fun v H' => V.non = V.non ∧ Q (.bl (decide (v = .non))) H') rl (q_fz q) fun x v H' e rl' p1 z hk qz => ?_
    exact ⟨rfl, by rw [p1.isN hk]; exact qz H' (Same.refl _) _ (by unfold Hd; rfl)⟩
theorem v_nonN {j : Nat} {p3 : Pos} (ha : PE X a (tP Z W ma)) : PE X (.Compare a [.IsNot] [.Constant .none j p3] pos) (tP Z W (mBl (one1 (fun p => p.isN.map Bool.not) ma))) :=
  (pe_cmpR op_notN ha pe_non (nomark _)).pimp fun σ H Q ⟨om, env, rl, q⟩ => by
    refine one (T := fun v H' => V.non = V.non ∧ Q (.bl (!decide (v = .non))) H') rl (q_fz q) fun x v H' e rl' p1 z hk qz => ?_
    cases hz : x.isN with
    | none => rw [hz] at hk; cases hk
    | some z' => rw [hz] at hk; cases hk; exact ⟨rfl, by rw [p1.isN hz]; exact qz H' (Same.refl _) _ (by unfold Hd; rfl)⟩

/-! and, or, not -/
variable {ta tb : RC.Env → Res Bool} {rest : List Expr}
theorem t_val (h : PE X e (tP Z W ma)) (he : ∀ whole, isTrue e X.env whole = (do let v ← whole; standAt e.pos; holding [v] (truthy v)) := by intro _; rfl) : PT X e (tB Z W (one1 P.bl? ma)) :=
  (pt_val h he).pimp fun σ H Q ⟨om, env, rl, q⟩ => by
    refine one (k := P.bl?) (B := Q) (T := fun v H' => ∃ c, v = .bl c ∧ Q c H') rl q fun x v H' e rl' p1 z hk qz => ?_
    exact ⟨z, p1.bl hk, qz H' (Same.refl _)⟩
def bAnd (ta tb : RC.Env → Res Bool) : RC.Env → Res Bool := fun env => (ta env).bind fun x => if x = true then tb env else .ok false
def bOr (ta tb : RC.Env → Res Bool) : RC.Env → Res Bool := fun env => (ta env).bind fun x => if x = true then .ok true else tb env
def bNot (ta : RC.Env → Res Bool) : RC.Env → Res Bool := fun env => (ta env).map Bool.not
theorem twoB {om : Om} {env : RC.Env} {σ : L2.St} {H : Hp} {Q : Bool → Hp → Prop} {s : Bool} (rl : Rel Z om σ H env) (q : Lands ((ta env).bind fun x => if x = s then tb env else .ok (!s)) (fun b => ∀ H', Same H H' → Q b H') (fun x => ∀ c d H', Same H H' → ExOk Z.g om H' x c d → W c d σ H')) : tB Z W ta σ H fun c H1 => if c = s then tB Z W tb σ H1 Q else Q (!s) H1 := by
  refine ⟨om, env, rl, ?_⟩
  cases ha : ta env with
  | stuck => rw [ha] at q; exact q
  | rs x => rw [ha] at q; exact q
  | ok x =>
    rw [ha] at q
    simp only [Res.bind] at q
    intro H1 e1
    by_cases hx : x = s
    · rw [if_pos hx]
      rw [if_pos hx] at q
      refine ⟨om, env, rl.grow e1, ?_⟩
      cases hb : tb env with
      | stuck => rw [hb] at q; exact q
      | rs x => rw [hb] at q; exact fun c d H' e2 => q c d H' (e1.trans e2)
      | ok y => rw [hb] at q; exact fun H2 e2 => q H2 (e1.trans e2)
    · rw [if_neg hx]
      rw [if_neg hx] at q
      exact q H1 e1
theorem tw_and (ha : PT X a (tB Z W ta)) (hb : PW X (.BoolOp .And (b :: rest) pos) (tB Z W tb)) : PW X (.BoolOp .And (a :: b :: rest) pos) (tB Z W (bAnd ta tb)) :=
  ⟨fun wh pins s σ H Q I ⟨om, env, rl, q⟩ => (pw_and ha hb).run wh pins s σ H Q I (twoB (s := true) rl q)⟩
theorem tw_or (ha : PT X a (tB Z W ta)) (hb : PW X (.BoolOp .Or (b :: rest) pos) (tB Z W tb)) : PW X (.BoolOp .Or (a :: b :: rest) pos) (tB Z W (bOr ta tb)) :=
  ⟨fun wh pins s σ H Q I ⟨om, env, rl, q⟩ => (pw_or ha hb).run wh pins s σ H Q I (by
    have q' : Lands ((ta env).bind fun x => if x = false then tb env else .ok (!false)) (fun b => ∀ H', Same H H' → Q b H') (fun x => ∀ c d H', Same H H' → ExOk Z.g om H' x c d → W c d σ H') := by
      unfold bOr at q
      cases ha : ta env with
      | stuck => rw [ha] at q; exact q
      | rs x => rw [ha] at q; exact q
      | ok x => rw [ha] at q; cases x <;> exact q
    have z := twoB (s := false) rl q'
    obtain ⟨om2, env2, rl2, z⟩ := z
    refine ⟨om2, env2, rl2, ?_⟩
    cases ha : ta env2 with
    | stuck => rw [ha] at z; exact z
    | rs x => rw [ha] at z; exact z
    | ok x =>
      rw [ha] at z
      intro H1 e1
      have z1 := z H1 e1
      cases x
      · rw [if_neg Bool.false_ne_true]; rw [if_pos rfl] at z1; exact z1
      · rw [if_pos rfl]; rw [if_neg (by decide)] at z1; exact z1)⟩
theorem t_not (ha : PT X a (tB Z W ta)) : PT X (.UnaryOp .Not a pos) (tB Z W (bNot ta)) := (pt_not ha).pimp fun σ H Q ⟨om, env, rl, q⟩ => by
  refine ⟨om, env, rl, ?_⟩
  unfold bNot at q
  cases h : ta env with
  | stuck => rw [h] at q; exact q
  | rs x => rw [h] at q; exact q
  | ok x => rw [h] at q; exact q
/-- a and b as a value, a a bool -/
def mAnd (ma mb : RC.Env → Res P) : RC.Env → Res P := fun env => (one1 P.bl? ma env).bind fun x => if x = true then mb env else .ok (.fz (.bl false))
def mOr (ma mb : RC.Env → Res P) : RC.Env → Res P := fun env => (one1 P.bl? ma env).bind fun x => if x = true then .ok (.fz (.bl true)) else mb env
def mNot (ma : RC.Env → Res P) : RC.Env → Res P := fun env => (one1 P.bl? ma env).map fun z => .fz (.bl (!z))
theorem q_if {om : Om} {env : RC.Env} {σ : L2.St} {H : Hp} {Q : VK} {s : Bool} {d : Bool} (rl : Rel Z om σ H env) (q : Lands ((one1 P.bl? ma env).bind fun x => if x = s then mb env else .ok (.fz (.bl d))) (fun r => ∀ v H', Same H H' → POk Z.g om H' r v → Q v H') (fun x => ∀ c d H', Same H H' → ExOk Z.g om H' x c d → W c d σ H')) : tP Z W ma σ H fun x H1 => ∃ c, x = .bl c ∧ if c = s then tP Z W mb σ H1 Q else Q (.bl d) H1 := by
  refine ⟨om, env, rl, ?_⟩
  unfold one1 at q
  cases ha : ma env with
  | stuck => rw [ha] at q; exact q
  | rs x => rw [ha] at q; exact q
  | ok x =>
    rw [ha] at q
    simp only [Res.bind] at q
    intro v H1 e1 p1
    cases hx : x.bl? with
    | none => rw [hx] at q; exact q.elim
    | some c =>
      rw [hx] at q
      simp only [Res.of] at q
      refine ⟨c, p1.bl hx, ?_⟩
      by_cases hc : c = s
      · rw [if_pos hc]
        rw [if_pos hc] at q
        refine ⟨om, env, rl.grow e1, ?_⟩
        cases hb : mb env with
        | stuck => rw [hb] at q; exact q
        | rs x => rw [hb] at q; exact fun c d H' e2 => q c d H' (e1.trans e2)
        | ok y => rw [hb] at q; exact fun v H2 e2 => q v H2 (e1.trans e2)
      · rw [if_neg hc]
        rw [if_neg hc] at q
        exact q _ H1 e1 (by unfold POk Hd; rfl)
theorem r_and (ha : PE X a (tP Z W ma)) (hb : PE X (.BoolOp .And (b :: rest) pos) (tP Z W mb)) : PE X (.BoolOp .And (a :: b :: rest) pos) (tP Z W (mAnd ma mb)) :=
  (pe_and ha hb).pimp fun σ H Q ⟨om, env, rl, q⟩ => q_if (s := true) rl q
theorem r_or (ha : PE X a (tP Z W ma)) (hb : PE X (.BoolOp .Or (b :: rest) pos) (tP Z W mb)) : PE X (.BoolOp .Or (a :: b :: rest) pos) (tP Z W (mOr ma mb)) :=
  (pe_or ha hb).pimp fun σ H Q ⟨om, env, rl, q⟩ => by
    have q' : Lands ((one1 P.bl? ma env).bind fun x => if x = false then mb env else .ok (.fz (.bl true))) (fun r => ∀ v H', Same H H' → POk Z.g om H' r v → Q v H') (fun x => ∀ c d H', Same H H' → ExOk Z.g om H' x c d → W c d σ H') := by
      unfold mOr at q
      cases ha : one1 P.bl? ma env with
      | stuck => rw [ha] at q; exact q
      | rs x => rw [ha] at q; exact q
      | ok x => rw [ha] at q; cases x <;> exact q
    obtain ⟨om2, env2, rl2, z⟩ := q_if (s := false) rl q'
    refine ⟨om2, env2, rl2, ?_⟩
    cases ha : ma env2 with
    | stuck => rw [ha] at z; exact z
    | rs x => rw [ha] at z; exact z
    | ok x =>
      rw [ha] at z
      intro v H1 e1 p1
      obtain ⟨c, hc, z1⟩ := z v H1 e1 p1
      refine ⟨c, hc, ?_⟩
      cases c
      · rw [if_neg Bool.false_ne_true]; rw [if_pos rfl] at z1; exact z1
      · rw [if_pos rfl]; rw [if_neg (by decide)] at z1; exact z1
theorem r_not (ha : PE X a (tP Z W ma)) : PE X (.UnaryOp .Not a pos) (tP Z W (mNot ma)) := (pe_not ha).pimp fun σ H Q ⟨om, env, rl, q⟩ => by
  refine one (T := fun v H' => ∃ c, v = .bl c ∧ Q (.bl (!c)) H') rl (q_fz q) fun x v H' e rl' p1 z hk qz => ?_
  exact ⟨z, p1.bl hk, qz H' (Same.refl _) _ (by unfold Hd; rfl)⟩
/-- a if t else b -/
def mIf (tc : RC.Env → Res Bool) (ma mb : RC.Env → Res P) : RC.Env → Res P := fun env => (tc env).bind fun x => if x = true then ma env else mb env
theorem r_if (hc : PT X c (tB Z W ta)) (ha : PE X a (tP Z W ma)) (hb : PE X b (tP Z W mb)) : PE X (.IfExp c a b pos) (tP Z W (mIf ta ma mb)) := (pe_ifExp hc ha hb).pimp fun σ H Q ⟨om, env, rl, q⟩ => by
  refine ⟨om, env, rl, ?_⟩
  unfold mIf at q
  cases h : ta env with
  | stuck => rw [h] at q; exact q
  | rs x => rw [h] at q; exact q
  | ok x =>
    rw [h] at q
    simp only [Res.bind] at q
    intro H1 e1
    cases x with
    | true =>
      rw [if_pos rfl]
      rw [if_pos rfl] at q
      refine ⟨om, env, rl.grow e1, ?_⟩
      cases hb : ma env with
      | stuck => rw [hb] at q; exact q
      | rs x => rw [hb] at q; exact fun c d H' e2 => q c d H' (e1.trans e2)
      | ok y => rw [hb] at q; exact fun v H2 e2 => q v H2 (e1.trans e2)
    | false =>
      rw [if_neg Bool.false_ne_true]
      rw [if_neg Bool.false_ne_true] at q
      refine ⟨om, env, rl.grow e1, ?_⟩
      cases hb : mb env with
      | stuck => rw [hb] at q; exact q
      | rs x => rw [hb] at q; exact fun c d H' e2 => q c d H' (e1.trans e2)
      | ok y => rw [hb] at q; exact fun v H2 e2 => q v H2 (e1.trans e2)
end
end RC

set_option Elab.async false
set_option linter.all false
set_option maxRecDepth 100000
set_option maxHeartbeats 2000000
/-! R4: items, slices, displays, built-in calls, calls of defs, methods, classes. -/
namespace RC
open PySem PySem.Spec PyProof.Rows L2

def lab (om : Om) (p : Addr) (l : Lab) : Om := fun a => if a = p then some l else om a
theorem lab_same {om : Om} {p : Addr} {l : Lab} : lab om p l p = some l := by unfold lab; rw [if_pos rfl]
theorem lab_ne {om : Om} {p a : Addr} {l : Lab} (h : a ≠ p) : lab om p l a = om a := by unfold lab; rw [if_neg h]
theorem hide_lab {om : Om} {H : Hp} {p : Addr} {l : Lab} {o : HO} (hp : H p = none) : hide (lab om p l) (upd H p o) = hide om H := by
  funext a
  by_cases h : a = p
  · subst h
    unfold hide
    rw [lab_same]
    show none = _
    cases om a with
    | none => exact hp.symm
    | some _ => rfl
  · unfold hide
    rw [lab_ne h, upd_ne h]
theorem same_new {H : Hp} {p : Addr} {o : HO} (hp : H p = none) : Same H (upd H p o) := fun a u e => by rw [upd_ne (ne_of_none e hp)]; exact e
theorem om_none {om : Om} {H : Hp} {p : Addr} (tr : ∀ a l, om a = some l → ∃ o, H a = some o) (hp : H p = none) : om p = none := by
  cases h : om p with
  | none => rfl
  | some l => obtain ⟨o, q⟩ := tr p l h; rw [hp] at q; cases q
theorem new_lab {om : Om} {H H' : Hp} {p : Addr} {o : HO} (tr : ∀ a l, om a = some l → ∃ o, H a = some o) (e : Same H H') (hp : H' p = none) : New om H (lab om p .tmp) (upd H' p o) := by
  have hp0 : H p = none := e.free hp
  refine ⟨e.trans (same_new hp), fun a l h => ?_, fun a l h => ?_⟩
  · have : a ≠ p := fun z => by subst z; rw [om_none tr hp0] at h; cases h
    rw [lab_ne this]; exact h
  · by_cases z : a = p
    · subst z
      rw [lab_same] at h
      cases h
      exact .inr ⟨hp0, rfl, _, upd_same⟩
    · rw [lab_ne z] at h
      exact .inl h

section
variable {X : Cx} {Z : Zc} {W : WX} {e a b c : Expr} {es : List Expr} {pos p p2 : Pos} {ma mb : Env → Res P} {om : Om} {env : Env} {σ : L2.St} {H : Hp}

/-- a new list as the answer -/
theorem q_new {α : Type} {m : Env → Res α} {mk : α → List D} {Q : VK} {B : Exc → Prop} (rl : Rel Z om σ H env) (q : Lands ((m env).map fun z => R.tmp (.lst (mk z))) (fun r => ∀ v om' H', New om H om' H' → ROk Z.g om' H' r v → Q v H') B) :
    Lands (m env) (fun z => ∀ H', Same H H' → ∀ p xs, H' p = none → Hds Z.g (hide om H') (mk z) xs → Q (.ref p) (upd H' p (.lst xs))) B := by
  cases h : m env with
  | stuck => rw [h] at q; exact q
  | rs x => rw [h] at q; exact q
  | ok z =>
    rw [h] at q
    exact fun H' e p xs hp hd => q (.ref p) _ _ (new_lab rl.tr e hp) ⟨p, xs, rfl, lab_same, upd_same, by rw [hide_lab hp]; exact hd⟩
/-- a tuple as the answer, new or not -/
theorem q_tup {α : Type} {m : Env → Res α} {mk : α → List D} {Q : VK} {B : Exc → Prop} (rl : Rel Z om σ H env) (q : Lands ((m env).map fun z => P.fz (.tup (mk z))) (fun r => ∀ v H', Same H H' → POk Z.g om H' r v → Q v H') B) :
    Lands (m env) (fun z => ∀ H', Same H H' → ((∀ p xs, H' p = none → Hds Z.g (hide om H') (mk z) xs → Q (.ref p) (upd H' p (.tup xs))) ∧ (∀ v, Hd Z.g (hide om H') (.tup (mk z)) v → Q v H'))) B := by
  cases h : m env with
  | stuck => rw [h] at q; exact q
  | rs x => rw [h] at q; exact q
  | ok z =>
    rw [h] at q
    refine fun H' e => ⟨fun p xs hp hd => ?_, fun v hv => q v H' e hv⟩
    have op : om p = none := om_none rl.tr (e.free hp)
    refine q (.ref p) _ (e.trans (same_new hp)) ?_
    unfold POk Hd
    exact ⟨p, xs, rfl, by rw [hide_of op, upd_same], hd.mono (hide_grow (same_new hp))⟩

/-! items -/
def kIx (x y : P) : Option D := match y.int? with
  | none => none
  | some i => match x.seq? with
    | some ds => atI ds i
    | none => match x.str? with
      | some z => if z.length ≤ sizeLine then match atI z.cps.toList i with
        | some c => some (.str ⟨#[c]⟩)
        | none => none
        else none
      | none => none
theorem Hds.atI {g : Ga} {ds : List D} {xs : List V} {i : Int} {d : D} (h : Hds g H ds xs) (e : L2.atI ds i = some d) : ∃ v, L2.atI xs i = some v ∧ Hd g H d v := by
  unfold L2.atI at e ⊢
  rw [← h.len]
  cases hj : ixN ds.length i with
  | none => rw [hj] at e; cases e
  | some j => rw [hj] at e; exact h.get e
def mIx (ma mb : Env → Res P) : Env → Res P := fun env => (m2 kIx ma mb env).map fun z => .fz z
theorem r_ix (kx : Kx X Z W) (ha : PE X a (tP Z W ma)) (hb : PE X b (tP Z W mb)) (hs : PlainIx b := by exact fun _ _ => rfl) : PE X (.Subscript a b pos) (tP Z W (mIx ma mb)) :=
  (pe_ix ix_seq ha hb hs).pimp fun σ H Q ⟨om, env, rl, q⟩ => by
    refine two rl (q_fz (mk := fun z => z) q) fun x y v u H' e rl' p1 p2 z hk qz => ?_
    have qz := qz H' (Same.refl _)
    unfold kIx at hk
    split at hk
    · cases hk
    · rename_i i hi
      rw [p2.int hi]
      split at hk
      · rename_i ds hds
        obtain ⟨p, xs, e1, e2, e3⟩ := p1.seq hds
        obtain ⟨w, e4, e5⟩ := e3.atI hk
        rw [kx.gK] at e2
        subst e1
        rcases e2 with e2 | e2
        · exact .inl ⟨p, xs, i, w, rfl, rfl, e2, e4, qz w e5⟩
        · exact .inr (.inl ⟨p, xs, i, w, rfl, rfl, e2, e4, qz w e5⟩)
      · split at hk
        · rename_i s hs'
          split at hk
          · rename_i hl
            split at hk
            · rename_i cc hc
              cases hk
              exact .inr (.inr ⟨s, i, cc, p1.str hs', rfl, hl, hc, qz _ (by unfold Hd; rfl)⟩)
            · cases hk
          · cases hk
        · cases hk

/-! parts of slices -/
def tQ (Z : Zc) (W : WX) (m : Env → Res (Option Int)) : L2.TO := fun σ H Q => ∃ om env, Rel Z om σ H env ∧ Lands (m env) (fun b => ∀ H', Same H H' → Q b H') (fun x => ∀ c d H', Same H H' → ExOk Z.g om H' x c d → W c d σ H')
theorem _root_.L2.PO.pimp {X : Cx} {e : Option Expr} {t t' : L2.TO} (h : PO X e t) (i : ∀ σ H Q, t' σ H Q → t σ H Q) : PO X e t' := ⟨fun pins s σ H Q I q => h.run pins s σ H Q I (i σ H Q q)⟩
def mNoP : Env → Res (Option Int) := fun _ => .ok none
def mPart (ma : Env → Res P) : Env → Res (Option Int) := one1 (fun p => p.int?.map some) ma
theorem ro_none : PO X none (tQ Z W mNoP) := po_none.pimp fun σ H Q ⟨om, env, rl, q⟩ => q H (Same.refl _)
theorem ro_some (h : PE X e (tP Z W ma)) : PO X (some e) (tQ Z W (mPart ma)) := (po_some h).pimp fun σ H Q ⟨om, env, rl, q⟩ => by
  refine one (k := fun p => p.int?.map some) (B := Q) (T := fun v H' => ∃ i, v = .int i ∧ Q (some i) H') rl q fun x v H' e rl' p1 z hk qz => ?_
  cases hi : x.int? with
  | none => rw [hi] at hk; cases hk
  | some i => rw [hi] at hk; cases hk; exact ⟨i, p1.int hi, qz H' (Same.refl _)⟩
def cutD (ds : List D) (lo hi : Option Int) : List D := (ds.drop (HT.sIx ds.length 0 lo)).take (HT.sIx ds.length ds.length hi - HT.sIx ds.length 0 lo)
theorem Hds.cut {g : Ga} {ds : List D} {xs : List V} (h : Hds g H ds xs) (lo hi : Option Int) : Hds g H (cutD ds lo hi) (cutV xs lo hi) := by
  unfold cutD cutV
  rw [h.len]
  exact (h.drop _).take _
def m3 {α : Type} (k : P → Option Int → Option Int → Option α) (ma : Env → Res P) (ml mh : Env → Res (Option Int)) : Env → Res α := fun env => (ma env).bind fun x => (ml env).bind fun lo => (mh env).bind fun hi => .of (k x lo hi)
theorem three {ml mh : Env → Res (Option Int)} {α : Type} {k : P → Option Int → Option Int → Option α} {B : α → Hp → Prop} {T : V → Option Int → Option Int → Hp → Prop} (rl : Rel Z om σ H env)
    (q : Lands (m3 k ma ml mh env) (fun z => ∀ H', Same H H' → B z H') (fun x => ∀ c d H', Same H H' → ExOk Z.g om H' x c d → W c d σ H'))
    (f : ∀ x v lo hi H', Same H H' → Rel Z om σ H' env → POk Z.g om H' x v → ∀ z, k x lo hi = some z → (∀ H'', Same H' H'' → B z H'') → T v lo hi H') :
    tP Z W ma σ H fun v H1 => tQ Z W ml σ H1 fun lo H2 => tQ Z W mh σ H2 fun hi H3 => T v lo hi H3 := by
  unfold m3 at q
  refine ⟨om, env, rl, ?_⟩
  cases ha : ma env with
  | stuck => rw [ha] at q; exact q
  | rs x => rw [ha] at q; exact q
  | ok x =>
    rw [ha] at q
    simp only [Res.bind] at q
    intro v H1 e1 p1
    refine ⟨om, env, rl.grow e1, ?_⟩
    cases hl : ml env with
    | stuck => rw [hl] at q; exact q
    | rs x => rw [hl] at q; exact fun c d H' e2 => q c d H' (e1.trans e2)
    | ok lo =>
      rw [hl] at q
      simp only [Res.bind] at q
      intro H2 e2
      refine ⟨om, env, rl.grow (e1.trans e2), ?_⟩
      cases hh : mh env with
      | stuck => rw [hh] at q; exact q
      | rs x => rw [hh] at q; exact fun c d H' e3 => q c d H' ((e1.trans e2).trans e3)
      | ok hi =>
        rw [hh] at q
        simp only [Res.bind] at q
        intro H3 e3
        cases hk : k x lo hi with
        | none => rw [hk] at q; exact q.elim
        | some z =>
          rw [hk] at q
          simp only [Res.of] at q
          exact f x v lo hi H3 ((e1.trans e2).trans e3) (rl.grow ((e1.trans e2).trans e3)) (p1.grow (rl.grow e1).tr (e2.trans e3)) z hk fun H'' e4 => q H'' (((e1.trans e2).trans e3).trans e4)
/-- a list that may be cut: also the script -/
def P.slc? : P → Option (List D)
  | .fz (.scr ns) => some (ns.map D.int)
  | p => p.lst?
theorem hds_ints {g : Ga} {H : Hp} : ∀ ns : List Int, Hds g H (ns.map D.int) (ns.map V.int)
  | [] => .nil
  | n :: ns => .cons (by unfold Hd; rfl) (hds_ints ns)
theorem POk.slc {g : Ga} {x : P} {v : V} {ds : List D} (h : POk g om H x v) (e : x.slc? = some ds) : ∃ a xs, v = .ref a ∧ SqL g.K H a xs ∧ Hds g (hide om H) ds xs := by
  unfold P.slc? at e
  split at e
  · rename_i ns
    cases e
    simp only [POk, Hd] at h
    obtain ⟨a, h1, h2⟩ := h
    exact ⟨a, _, h1, Same.seq hide_same h2, hds_ints ns⟩
  · obtain ⟨a, xs, h1, h2, h3⟩ := h.lst e
    exact ⟨a, xs, h1, SqL.of h2, h3⟩
def kSlL (x : P) (lo hi : Option Int) : Option (List D) := x.slc?.map fun ds => cutD ds lo hi
def kSlT (x : P) (lo hi : Option Int) : Option (List D) := x.tup?.map fun ds => cutD ds lo hi
def kSlS (x : P) (lo hi : Option Int) : Option Str := x.str?.bind fun z => if z.length ≤ sizeLine then some (cutS z lo hi) else none
variable {ml mh : Env → Res (Option Int)} {lo hi : Option Expr}
def mSlL (ma : Env → Res P) (ml mh : Env → Res (Option Int)) : Env → Res R := fun env => (m3 kSlL ma ml mh env).map fun z => .tmp (.lst z)
def mSlT (ma : Env → Res P) (ml mh : Env → Res (Option Int)) : Env → Res P := fun env => (m3 kSlT ma ml mh env).map fun z => .fz (.tup z)
def mSlS (ma : Env → Res P) (ml mh : Env → Res (Option Int)) : Env → Res P := fun env => (m3 kSlS ma ml mh env).map fun z => .fz (.str z)
theorem r_slL (kx : Kx X Z W) (ha : PE X a (tP Z W ma)) (hl : PO X lo (tQ Z W ml)) (hh : PO X hi (tQ Z W mh)) : PE X (.Subscript a (.Slice lo hi none p2) pos) (tO Z W (mSlL ma ml mh)) :=
  (pe_slice sl_list ha hl hh).pimp fun σ H Q ⟨om, env, rl, q⟩ => by
    refine three (T := fun v lo hi H' => rSlL X.K v lo hi H' Q) rl (q_new rl q) fun x v lo hi H' e rl' p1 z hk qz => ?_
    unfold kSlL at hk
    cases hx : x.slc? with
    | none => rw [hx] at hk; cases hk
    | some ds =>
      rw [hx] at hk
      cases hk
      obtain ⟨a, xs, h1, h2, h3⟩ := p1.slc hx
      rw [kx.gK] at h2
      exact ⟨a, xs, h1, h2, fun p hp => qz H' (Same.refl _) p _ hp (h3.cut lo hi)⟩
theorem cut_whole {ds : List D} {lo hi : Option Int} (h : HT.sIx ds.length 0 lo = 0 ∧ HT.sIx ds.length ds.length hi = ds.length) : cutD ds lo hi = ds := by
  unfold cutD
  rw [h.1, h.2]
  simp
theorem r_slT (kx : Kx X Z W) (ha : PE X a (tP Z W ma)) (hl : PO X lo (tQ Z W ml)) (hh : PO X hi (tQ Z W mh)) : PE X (.Subscript a (.Slice lo hi none p2) pos) (tP Z W (mSlT ma ml mh)) :=
  (pe_slice sl_tupA ha hl hh).pimp fun σ H Q ⟨om, env, rl, q⟩ => by
    refine three (T := fun v lo hi H' => rSlA X.K v lo hi H' Q) rl (q_tup rl q) fun x v lo hi H' e rl' p1 z hk qz => ?_
    unfold kSlT at hk
    cases hx : x.tup? with
    | none => rw [hx] at hk; cases hk
    | some ds =>
      rw [hx] at hk
      cases hk
      obtain ⟨a, xs, h1, h2, h3⟩ := p1.tup hx
      have hd : Hd Z.g (hide om H') (.tup ds) v := by
        cases x with
        | fz d =>
          cases d <;> simp [P.tup?] at hx
          subst hx
          exact p1
        | bor l o => simp [P.tup?] at hx
      refine ⟨a, xs, h1, SqT.of h2, fun hw => ?_, fun hw p hp => (qz H' (Same.refl _)).1 p _ hp (h3.cut lo hi)⟩
      rw [← h3.len] at hw
      have z := (qz H' (Same.refl _)).2 v (by show Hd Z.g (hide om H') (.tup (cutD ds lo hi)) v; rw [cut_whole hw]; exact hd)
      rw [h1] at z
      exact z
theorem r_slS (ha : PE X a (tP Z W ma)) (hl : PO X lo (tQ Z W ml)) (hh : PO X hi (tQ Z W mh)) : PE X (.Subscript a (.Slice lo hi none p2) pos) (tP Z W (mSlS ma ml mh)) :=
  (pe_slice sl_str ha hl hh).pimp fun σ H Q ⟨om, env, rl, q⟩ => by
    refine three (T := fun v lo hi H' => rSlS v lo hi H' Q) rl (q_fz q) fun x v lo hi H' e rl' p1 z hk qz => ?_
    unfold kSlS at hk
    cases hx : x.str? with
    | none => rw [hx] at hk; cases hk
    | some s =>
      rw [hx] at hk
      simp only [Option.bind] at hk
      split at hk
      · rename_i hl
        cases hk
        exact ⟨s, p1.str hx, hl, qz H' (Same.refl _) _ (by unfold Hd; rfl)⟩
      · cases hk

/-! arguments, displays -/
def mNil : Env → Res (List P) := fun _ => .ok []
def mCons (ma : Env → Res P) (mr : Env → Res (List P)) : Env → Res (List P) := fun env => (ma env).bind fun x => (mr env).map fun r => x :: r
variable {mr : Env → Res (List P)}
theorem ra_nil : PA X [] (tA Z W mNil) := pa_nil.pimp fun σ H Q ⟨om, env, rl, q⟩ => q [] H (Same.refl _) rfl
theorem ra_cons (ha : PE X e (tP Z W ma)) (hr : PA X es (tA Z W mr)) (hs : starEach (e :: es) X.env = (false, eval e X.env) :: starEach es X.env := by rfl) : PA X (e :: es) (tA Z W (mCons ma mr)) :=
  (pa_cons ha hr hs).pimp fun σ H Q ⟨om, env, rl, q⟩ => by
    unfold mCons at q
    refine ⟨om, env, rl, ?_⟩
    cases ha : ma env with
    | stuck => rw [ha] at q; exact q
    | rs x => rw [ha] at q; exact q
    | ok x =>
      rw [ha] at q
      simp only [Res.bind] at q
      intro v H1 e1 p1
      refine ⟨om, env, rl.grow e1, ?_⟩
      cases hb : mr env with
      | stuck => rw [hb] at q; exact q
      | rs x => rw [hb] at q; exact fun c d H' e2 => q c d H' (e1.trans e2)
      | ok y =>
        rw [hb] at q
        exact fun vs H2 e2 p2 => q (v :: vs) H2 (e1.trans e2) ⟨v, vs, rfl, p1.grow (rl.grow e1).tr e2, p2⟩
def oneA {α : Type} (k : List P → Option α) (mr : Env → Res (List P)) : Env → Res α := fun env => (mr env).bind fun x => .of (k x)
theorem onA {α : Type} {k : List P → Option α} {B : α → Hp → Prop} {T : List V → Hp → Prop} (r : Rel Z om σ H env)
    (q : Lands (oneA k mr env) (fun z => ∀ H', Same H H' → B z H') (fun x => ∀ c d H', Same H H' → ExOk Z.g om H' x c d → W c d σ H'))
    (f : ∀ ps vs H', Same H H' → Rel Z om σ H' env → PsOk Z.g om H' ps vs → ∀ z, k ps = some z → (∀ H'', Same H' H'' → B z H'') → T vs H') :
    tA Z W mr σ H fun v H1 => T v H1 := by
  unfold oneA at q
  refine ⟨om, env, r, ?_⟩
  cases ha : mr env with
  | stuck => rw [ha] at q; exact q
  | rs x => rw [ha] at q; exact q
  | ok x =>
    rw [ha] at q
    simp only [Res.bind] at q
    intro v H1 e1 p1
    cases hk : k x with
    | none => rw [hk] at q; exact q.elim
    | some z =>
      rw [hk] at q
      simp only [Res.of] at q
      exact f x v H1 e1 (r.grow e1) p1 z hk fun H'' e3 => q H'' (e1.trans e3)
/-- all of them fixed data -/
def cold : List P → Option (List D)
  | [] => some []
  | .fz d :: ps => (cold ps).map fun ds => d :: ds
  | .bor _ _ :: _ => none
theorem PsOk.cold {g : Ga} : ∀ {ps : List P} {vs : List V} {ds : List D}, PsOk g om H ps vs → RC.cold ps = some ds → Hds g (hide om H) ds vs
  | [], vs, ds, h, e => by cases e; rw [show vs = [] from h]; exact .nil
  | .fz d :: ps, vs, ds, ⟨v, r, h1, h2, h3⟩, e => by
    unfold RC.cold at e
    cases hp : RC.cold ps with
    | none => rw [hp] at e; cases e
    | some ds' =>
      rw [hp] at e
      cases e
      rw [h1]
      exact .cons h2 (PsOk.cold h3 hp)
  | .bor _ _ :: _, vs, ds, h, e => by cases e
def kDisp (ps : List P) : Option (List D) := (cold ps).bind fun ds => if ds.length ≤ 16777216 then some ds else none
def mLst (mr : Env → Res (List P)) : Env → Res R := fun env => (oneA kDisp mr env).map fun z => .tmp (.lst z)
def mTup (mr : Env → Res (List P)) : Env → Res P := fun env => (oneA kDisp mr env).map fun z => .fz (.tup z)
theorem kDisp_some {ps : List P} {z : List D} (h : kDisp ps = some z) : cold ps = some z ∧ z.length ≤ sizeLine := by
  unfold kDisp at h
  cases hc : cold ps with
  | none => rw [hc] at h; cases h
  | some ds =>
    rw [hc] at h
    simp only [Option.bind] at h
    split at h
    · rename_i hl
      cases h
      exact ⟨rfl, by rw [sizeLine_eq]; exact hl⟩
    · cases h
theorem r_lst (ha : PA X es (tA Z W mr)) : PE X (.List es pos) (tO Z W (mLst mr)) := (pe_lst ha).pimp fun σ H Q ⟨om, env, rl, q⟩ => by
  refine onA rl (q_new rl q) fun ps vs H' e rl' po z hk qz => ?_
  obtain ⟨h1, h2⟩ := kDisp_some hk
  have hd := po.cold h1
  exact ⟨by rw [← hd.len]; exact h2, fun p hp => qz H' (Same.refl _) p vs hp hd⟩
theorem r_tup {x1} (ha : PA X es (tA Z W mr)) : PE X (.Tuple es x1 pos) (tP Z W (mTup mr)) := (pe_tup ha).pimp fun σ H Q ⟨om, env, rl, q⟩ => by
  refine onA rl (q_tup rl q) fun ps vs H' e rl' po z hk qz => ?_
  obtain ⟨h1, h2⟩ := kDisp_some hk
  have hd := po.cold h1
  exact ⟨by rw [← hd.len]; exact h2, fun p hp => (qz H' (Same.refl _)).1 p vs hp hd⟩

/-! lists joined, repeated -/
def kCat (x y : P) : Option (List D) := match x.lst?, y.lst? with
  | some ds, some es => if ds.length + es.length ≤ 16777216 then some (ds ++ es) else none
  | _, _ => none
def mCat (ma mb : Env → Res P) : Env → Res R := fun env => (m2 kCat ma mb env).map fun z => .tmp (.lst z)
theorem r_cat (ha : PE X a (tP Z W ma)) (hb : PE X b (tP Z W mb)) : PE X (.BinOp a .Add b pos) (tO Z W (mCat ma mb)) := (pe_op op_cat ha hb).pimp fun σ H Q ⟨om, env, rl, q⟩ => by
  refine two rl (q_new rl q) fun x y v u H' e rl' p1 p2 z hk qz => ?_
  unfold kCat at hk
  split at hk
  · rename_i ds es h1 h2
    split at hk
    · rename_i hl
      cases hk
      obtain ⟨l, xs, e1, e2, e3⟩ := p1.lst h1
      obtain ⟨l', ys, e1', e2', e3'⟩ := p2.lst h2
      exact ⟨l, l', xs, ys, e1, e1', e2, e2', by rw [← e3.len, ← e3'.len, sizeLine_eq]; exact hl, fun p hp => qz H' (Same.refl _) p _ hp (e3.app e3')⟩
    · cases hk
  · cases hk
def kRep (x y : P) : Option (List D) := match x.lst?, y.int? with
  | some ds, some k => if -9223372036854775808 ≤ k ∧ k < 9223372036854775808 ∧ ds.length * k.toNat ≤ 16777216 then some (List.replicate k.toNat ds).flatten else none
  | _, _ => none
theorem Hds.reps {g : Ga} {ds : List D} {xs : List V} (h : Hds g H ds xs) : ∀ n, Hds g H (List.replicate n ds).flatten (List.replicate n xs).flatten
  | 0 => .nil
  | n + 1 => by
    rw [List.replicate_succ, List.replicate_succ, List.flatten_cons, List.flatten_cons]
    exact h.app (Hds.reps h n)
def mRep (ma mb : Env → Res P) : Env → Res R := fun env => (m2 kRep ma mb env).map fun z => .tmp (.lst z)
theorem r_rep (ha : PE X a (tP Z W ma)) (hb : PE X b (tP Z W mb)) : PE X (.BinOp a .Mult b pos) (tO Z W (mRep ma mb)) := (pe_op op_rep ha hb).pimp fun σ H Q ⟨om, env, rl, q⟩ => by
  refine two rl (q_new rl q) fun x y v u H' e rl' p1 p2 z hk qz => ?_
  unfold kRep at hk
  split at hk
  · rename_i ds k h1 h2
    split at hk
    · rename_i hl
      cases hk
      obtain ⟨l, xs, e1, e2, e3⟩ := p1.lst h1
      exact ⟨l, k, xs, e1, p2.int h2, e2, hl.1, hl.2.1, by rw [← e3.len, sizeLine_eq]; exact hl.2.2, fun p hp => qz H' (Same.refl _) p _ hp (e3.reps _)⟩
    · cases hk
  · cases hk
def kCatT (x y : P) : Option (List D) := match x.tup?, y.tup? with
  | some ds, some es => if ds.length + es.length ≤ 16777216 then some (ds ++ es) else none
  | _, _ => none
def mCatT (ma mb : Env → Res P) : Env → Res P := fun env => (m2 kCatT ma mb env).map fun z => .fz (.tup z)
theorem tup_of {g : Ga} {x : P} {v : V} {ds : List D} (h : POk g om H x v) (e : x.tup? = some ds) : Hd g (hide om H) (.tup ds) v := by
  cases x with
  | fz d =>
    cases d <;> simp [P.tup?] at e
    subst e
    exact h
  | bor l o => simp [P.tup?] at e
theorem r_catT (kx : Kx X Z W) (ha : PE X a (tP Z W ma)) (hb : PE X b (tP Z W mb)) : PE X (.BinOp a .Add b pos) (tP Z W (mCatT ma mb)) := (pe_op op_catA ha hb).pimp fun σ H Q ⟨om, env, rl, q⟩ => by
  refine two rl (q_tup rl q) fun x y v u H' e rl' p1 p2 z hk qz => ?_
  unfold kCatT at hk
  split at hk
  · rename_i ds es h1 h2
    split at hk
    · rename_i hl
      cases hk
      have d1 := tup_of p1 h1
      have d2 := tup_of p2 h2
      obtain ⟨l, xs, e1, e2, e3⟩ := p1.tup h1
      obtain ⟨l', ys, e1', e2', e3'⟩ := p2.tup h2
      have qz := qz H' (Same.refl _)
      refine ⟨l, l', xs, ys, e1, e1', SqT.of e2, SqT.of e2', by rw [← e3.len, ← e3'.len, sizeLine_eq]; exact hl, fun z => ?_, fun z z' => ?_, fun _ _ p hp => qz.1 p _ hp (e3.app e3')⟩
      · have : ds = [] := List.eq_nil_of_length_eq_zero (by rw [e3.len, z]; rfl)
        subst this
        have w := qz.2 u d2
        rw [e1'] at w
        exact w
      · have : es = [] := List.eq_nil_of_length_eq_zero (by rw [e3'.len, z']; rfl)
        subst this
        have w := qz.2 v (by rw [List.append_nil]; exact d1)
        rw [e1] at w
        exact w
    · cases hk
  · cases hk
def kCatS (x y : P) : Option Str := match x.str?, y.str? with
  | some s, some t => if s.length + t.length ≤ 16777216 then some (s ++ t) else none
  | _, _ => none
def mCatS (ma mb : Env → Res P) : Env → Res P := fun env => (m2 kCatS ma mb env).map fun z => .fz (.str z)
theorem r_catS (ha : PE X a (tP Z W ma)) (hb : PE X b (tP Z W mb)) : PE X (.BinOp a .Add b pos) (tP Z W (mCatS ma mb)) := (pe_op op_add_str ha hb).pimp fun σ H Q ⟨om, env, rl, q⟩ => by
  refine two rl (q_fz q) fun x y v u H' e rl' p1 p2 z hk qz => ?_
  unfold kCatS at hk
  split at hk
  · rename_i s t h1 h2
    split at hk
    · rename_i hl
      cases hk
      exact ⟨s, t, p1.str h1, p2.str h2, by rw [sizeLine_eq]; exact hl, qz H' (Same.refl _) _ (by unfold Hd; rfl)⟩
    · cases hk
  · cases hk

/-! built-ins called by name -/
theorem r_bi {α : Type} {id : String} {x : Str} {r : List V → Hp → VK → Prop} {k : List P → Option α} {mk : α → D} (hc : CallR X (.builtin id) r)
    (hr : ∀ om H ps vs z (Q : VK), PsOk Z.g om H ps vs → k ps = some z → (∀ v, Hd Z.g (hide om H) (mk z) v → Q v H) → r vs H Q) (hg : Gl X x) (hm : X.mg x = none) (hv : bootBuiltins x = some (.builtin id))
    (ha : PA X (e :: es) (tA Z W mr)) (hn : x ≠ "__name__" := by decide) (hdb : (x == ("__debug__" : Str)) = false := by decide)
    (he : starEach (e :: es) X.env = (false, eval e X.env) :: starEach es X.env := by rfl) (hpl : (backTo pos (starEach es X.env)).any (·.1) = false := by rfl) :
    PE X (.Call (.Name x p) (e :: es) [] pos) (tP Z W fun env => (oneA k mr env).map fun z => .fz (mk z)) := (pe_callB hc hg hm hv ha hn hdb he hpl).pimp fun σ H Q ⟨om, env, rl, q⟩ => by
  refine onA rl (q_fz q) fun ps vs H' e rl' po z hk qz => ?_
  exact hr om H' ps vs z Q po hk fun v hv => qz H' (Same.refl _) v hv
theorem r_ty {α : Type} {T : String} {x : Str} {r : List V → Hp → VK → Prop} {k : List P → Option α} {mk : α → D} (hc : CallR X (.type T) r)
    (hr : ∀ om H ps vs z (Q : VK), PsOk Z.g om H ps vs → k ps = some z → (∀ v, Hd Z.g (hide om H) (mk z) v → Q v H) → r vs H Q) (hg : Gl X x) (hm : X.mg x = none) (hv : bootBuiltins x = some (.type T))
    (ha : PA X (e :: es) (tA Z W mr)) (hn : x ≠ "__name__" := by decide) (hdb : (x == ("__debug__" : Str)) = false := by decide)
    (he : starEach (e :: es) X.env = (false, eval e X.env) :: starEach es X.env := by rfl) (hpl : (backTo pos (starEach es X.env)).any (·.1) = false := by rfl) :
    PE X (.Call (.Name x p) (e :: es) [] pos) (tP Z W fun env => (oneA k mr env).map fun z => .fz (mk z)) := (pe_callTy hc hg hm hv ha hn hdb he hpl).pimp fun σ H Q ⟨om, env, rl, q⟩ => by
  refine onA rl (q_fz q) fun ps vs H' e rl' po z hk qz => ?_
  exact hr om H' ps vs z Q po hk fun v hv => qz H' (Same.refl _) v hv
theorem PsOk.one {g : Ga} {x : P} {vs : List V} (h : PsOk g om H [x] vs) : ∃ v, vs = [v] ∧ POk g om H x v := by
  obtain ⟨v, r, h1, h2, h3⟩ := h
  rw [show r = [] from h3] at h1
  exact ⟨v, h1, h2⟩
theorem PsOk.two {g : Ga} {x y : P} {vs : List V} (h : PsOk g om H [x, y] vs) : ∃ v u, vs = [v, u] ∧ POk g om H x v ∧ POk g om H y u := by
  obtain ⟨v, r, h1, h2, h3⟩ := h
  obtain ⟨u, h4, h5⟩ := h3.one
  rw [h4] at h1
  exact ⟨v, u, h1, h2, h5⟩
def kLen : List P → Option Int
  | [x] => match x.seq? with
    | some ds => some ds.length
    | none => match x.str? with
      | some z => if z.length ≤ sizeLine then some z.length else none
      | none => none
  | _ => none
def mLen (mr : Env → Res (List P)) : Env → Res P := fun env => (oneA kLen mr env).map fun z => .fz (.int z)
theorem r_len (kx : Kx X Z W) (hm : X.mg "len" = none) (ha : PA X (e :: es) (tA Z W mr)) (hg : Gl X "len" := by rfl)
    (he : starEach (e :: es) X.env = (false, eval e X.env) :: starEach es X.env := by rfl) (hpl : (backTo pos (starEach es X.env)).any (·.1) = false := by rfl) : PE X (.Call (.Name "len" p) (e :: es) [] pos) (tP Z W (mLen mr)) :=
  r_bi call_len (fun om H ps vs z Q po hk q => by
    unfold kLen at hk
    split at hk
    · rename_i x
      obtain ⟨v, rfl, p1⟩ := po.one
      split at hk
      · rename_i ds hs
        cases hk
        obtain ⟨a, xs, h1, h2, h3⟩ := p1.seq hs
        subst h1
        rw [kx.gK] at h2
        refine ⟨_, xs.length, rfl, ?_, q _ (by rw [h3.len]; unfold Hd; rfl)⟩
        rcases h2 with h2 | h2
        · exact .inl ⟨xs, h2, rfl⟩
        · exact .inr ⟨xs, h2, rfl⟩
      · split at hk
        · rename_i s hs
          split at hk
          · rename_i hl
            cases hk
            refine ⟨v, s.length, rfl, ?_, q _ (by unfold Hd; rfl)⟩
            rw [p1.str hs]
            exact ⟨hl, rfl⟩
          · cases hk
        · cases hk
    · cases hk) hg hm (by decide +kernel) ha (by decide) (by decide) he hpl
def kMin2 : List P → Option Int
  | [x, y] => kI (fun i j => some (if j < i then j else i)) x y
  | _ => none
def kMax2 : List P → Option Int
  | [x, y] => kI (fun i j => some (if j > i then j else i)) x y
  | _ => none
def mMin2 (mr : Env → Res (List P)) : Env → Res P := fun env => (oneA kMin2 mr env).map fun z => .fz (.int z)
def mMax2 (mr : Env → Res (List P)) : Env → Res P := fun env => (oneA kMax2 mr env).map fun z => .fz (.int z)
theorem r_min2 (kx : Kx X Z W) (hm : X.mg "min" = none) (ha : PA X (e :: es) (tA Z W mr)) (hg : Gl X "min" := by rfl)
    (he : starEach (e :: es) X.env = (false, eval e X.env) :: starEach es X.env := by rfl) (hpl : (backTo pos (starEach es X.env)).any (·.1) = false := by rfl) : PE X (.Call (.Name "min" p) (e :: es) [] pos) (tP Z W (mMin2 mr)) :=
  r_bi (call_min2 kx.calm) (fun om H ps vs z Q po hk q => by
    unfold kMin2 at hk
    split at hk
    · obtain ⟨v, u, rfl, p1, p2⟩ := po.two
      obtain ⟨i, j, h1, h2, h3⟩ := kI_some hk
      cases h3
      exact ⟨i, j, by rw [p1.int h1, p2.int h2], q _ (by unfold Hd; rfl)⟩
    · cases hk) hg hm (by decide +kernel) ha (by decide) (by decide) he hpl
theorem r_max2 (kx : Kx X Z W) (hm : X.mg "max" = none) (ha : PA X (e :: es) (tA Z W mr)) (hg : Gl X "max" := by rfl)
    (he : starEach (e :: es) X.env = (false, eval e X.env) :: starEach es X.env := by rfl) (hpl : (backTo pos (starEach es X.env)).any (·.1) = false := by rfl) : PE X (.Call (.Name "max" p) (e :: es) [] pos) (tP Z W (mMax2 mr)) :=
  r_bi (call_max2 kx.calm) (fun om H ps vs z Q po hk q => by
    unfold kMax2 at hk
    split at hk
    · obtain ⟨v, u, rfl, p1, p2⟩ := po.two
      obtain ⟨i, j, h1, h2, h3⟩ := kI_some hk
      cases h3
      exact ⟨i, j, by rw [p1.int h1, p2.int h2], q _ (by unfold Hd; rfl)⟩
    · cases hk) hg hm (by decide +kernel) ha (by decide) (by decide) he hpl
/-- the ints of a list -/
def ints? : List D → Option (List Int)
  | [] => some []
  | .int i :: ds => (ints? ds).map fun r => i :: r
  | _ :: _ => none
theorem ints_ok {g : Ga} {H : Hp} : ∀ {ds : List D} {vs : List V} {ns : List Int}, Hds g H ds vs → ints? ds = some ns → vs = ns.map V.int
  | [], vs, ns, h, e => by unfold Hds at h; cases e; exact h
  | d :: ds, vs, ns, h, e => by
    unfold Hds at h
    obtain ⟨v, r, rfl, h1, h2⟩ := h
    cases d <;> simp only [ints?, reduceCtorEq] at e
    cases hr : ints? ds with
    | none => rw [hr] at e; cases e
    | some ns' =>
      rw [hr] at e
      cases e
      simp only [Hd] at h1
      rw [h1, ints_ok h2 hr]
      rfl
theorem ints_map : ∀ ns : List Int, ints? (ns.map D.int) = some ns
  | [] => rfl
  | n :: ns => by simp [ints?, ints_map ns]
def kSum : List P → Option Int
  | [x] => match x.lst? with
    | some ds => (ints? ds).map List.sum
    | none => none
  | _ => none
def mSum (mr : Env → Res (List P)) : Env → Res P := fun env => (oneA kSum mr env).map fun z => .fz (.int z)
theorem r_sum (kx : Kx X Z W) (hm : X.mg "sum" = none) (ha : PA X (e :: es) (tA Z W mr)) (hg : Gl X "sum" := by rfl)
    (he : starEach (e :: es) X.env = (false, eval e X.env) :: starEach es X.env := by rfl) (hpl : (backTo pos (starEach es X.env)).any (·.1) = false := by rfl) : PE X (.Call (.Name "sum" p) (e :: es) [] pos) (tP Z W (mSum mr)) :=
  r_bi (cr_sum kx.calm) (fun om H ps vs z Q po hk q => by
    unfold kSum at hk
    split at hk
    · obtain ⟨v, rfl, p1⟩ := po.one
      split at hk
      · rename_i ds hs
        cases hi : ints? ds with
        | none => rw [hi] at hk; cases hk
        | some ns =>
          rw [hi] at hk
          cases hk
          obtain ⟨a, xs, h1, h2, h3⟩ := p1.lst hs
          rw [ints_ok h3 hi] at h2
          exact ⟨a, ns, by rw [h1], SqL.of h2, q _ (by unfold Hd; rfl)⟩
      · cases hk
    · cases hk) hg hm (by decide +kernel) ha (by decide) (by decide) he hpl
def least? (ns : List Int) : Option Int := ns.min?
def kMin : List P → Option Int
  | [x] => match x.lst? with
    | some ds => match ints? ds with
      | some ns => ns.min?
      | none => none
    | none => none
  | _ => none
def mMin (mr : Env → Res (List P)) : Env → Res P := fun env => (oneA kMin mr env).map fun z => .fz (.int z)
theorem r_min (kx : Kx X Z W) (hm : X.mg "min" = none) (ha : PA X (e :: es) (tA Z W mr)) (hg : Gl X "min" := by rfl)
    (he : starEach (e :: es) X.env = (false, eval e X.env) :: starEach es X.env := by rfl) (hpl : (backTo pos (starEach es X.env)).any (·.1) = false := by rfl) : PE X (.Call (.Name "min" p) (e :: es) [] pos) (tP Z W (mMin mr)) :=
  r_bi (cr_min kx.calm) (fun om H ps vs z Q po hk q => by
    unfold kMin at hk
    split at hk
    · obtain ⟨v, rfl, p1⟩ := po.one
      split at hk
      · rename_i ds hs
        split at hk
        · rename_i ns hi
          obtain ⟨a, xs, h1, h2, h3⟩ := p1.lst hs
          rw [ints_ok h3 hi] at h2
          obtain ⟨hm1, hm2⟩ := List.min?_eq_some_iff.mp hk
          refine ⟨a, ns, by rw [h1], SqL.of h2, List.length_pos_of_mem hm1, fun m hm hle => ?_⟩
          have : m = z := Int.le_antisymm (hle z hm1) (hm2 m hm)
          subst this
          exact q _ (by unfold Hd; rfl)
        · cases hk
      · cases hk
    · cases hk) hg hm (by decide +kernel) ha (by decide) (by decide) he hpl
def kInt : List P → Option Int
  | [x] => match x.int? with
    | some i => some i
    | none => match x.bl? with
      | some b => some (if b = true then 1 else 0)
      | none => none
  | _ => none
def mInt (mr : Env → Res (List P)) : Env → Res P := fun env => (oneA kInt mr env).map fun z => .fz (.int z)
theorem r_intc (kx : Kx X Z W) (hm : X.mg "int" = none) (ha : PA X (e :: es) (tA Z W mr)) (hg : Gl X "int" := by rfl)
    (he : starEach (e :: es) X.env = (false, eval e X.env) :: starEach es X.env := by rfl) (hpl : (backTo pos (starEach es X.env)).any (·.1) = false := by rfl) : PE X (.Call (.Name "int" p) (e :: es) [] pos) (tP Z W (mInt mr)) :=
  r_ty call_int1 (fun om H ps vs z Q po hk q => by
    unfold kInt at hk
    split at hk
    · obtain ⟨v, rfl, p1⟩ := po.one
      split at hk
      · rename_i i hi
        cases hk
        exact .inl ⟨z, by rw [p1.int hi], q _ (by unfold Hd; rfl)⟩
      · split at hk
        · rename_i b hb
          cases hk
          refine .inr ⟨b, by rw [p1.bl hb], q _ ?_⟩
          unfold Hd
          rfl
        · cases hk
    · cases hk) hg hm (by decide +kernel) ha (by decide) (by decide) he hpl
/-- list(x) of a list or a tuple -/
def kListc : List P → Option (List D)
  | [x] => x.seq?
  | _ => none
def mListc (mr : Env → Res (List P)) : Env → Res R := fun env => (oneA kListc mr env).map fun z => .tmp (.lst z)
theorem r_listc (kx : Kx X Z W) (hm : X.mg "list" = none) (ha : PA X (e :: es) (tA Z W mr)) (hg : Gl X "list" := by rfl)
    (he : starEach (e :: es) X.env = (false, eval e X.env) :: starEach es X.env := by rfl) (hpl : (backTo pos (starEach es X.env)).any (·.1) = false := by rfl) : PE X (.Call (.Name "list" p) (e :: es) [] pos) (tO Z W (mListc mr)) :=
  (pe_callTy call_list_of hg hm (by decide +kernel) ha (by decide) (by decide) he hpl).pimp fun σ H Q ⟨om, env, rl, q⟩ => by
    refine onA rl (q_new rl q) fun ps vs H' e rl' po z hk qz => ?_
    unfold kListc at hk
    split at hk
    · obtain ⟨v, rfl, p1⟩ := po.one
      obtain ⟨a, xs, h1, h2, h3⟩ := p1.seq hk
      rw [kx.gK] at h2
      exact ⟨a, xs, by rw [h1], h2, fun l hl => qz H' (Same.refl _) l xs hl h3⟩
    · cases hk
def kTupc : List P → Option (List D)
  | [x] => x.seq?
  | _ => none
def mTupc (mr : Env → Res (List P)) : Env → Res P := fun env => (oneA kTupc mr env).map fun z => .fz (.tup z)
theorem r_tupc (kx : Kx X Z W) (hm : X.mg "tuple" = none) (ha : PA X (e :: es) (tA Z W mr)) (hg : Gl X "tuple" := by rfl)
    (he : starEach (e :: es) X.env = (false, eval e X.env) :: starEach es X.env := by rfl) (hpl : (backTo pos (starEach es X.env)).any (·.1) = false := by rfl) : PE X (.Call (.Name "tuple" p) (e :: es) [] pos) (tP Z W (mTupc mr)) :=
  (pe_callTy call_tuple_of hg hm (by decide +kernel) ha (by decide) (by decide) he hpl).pimp fun σ H Q ⟨om, env, rl, q⟩ => by
    refine onA rl (q_tup rl q) fun ps vs H' e rl' po z hk qz => ?_
    have qz := qz H' (Same.refl _)
    unfold kTupc at hk
    split at hk
    · rename_i x
      obtain ⟨v, rfl, p1⟩ := po.one
      unfold P.seq? at hk
      split at hk
      · rename_i ds hs
        cases hk
        obtain ⟨a, xs, h1, h2, h3⟩ := p1.lst hs
        exact ⟨a, xs, by rw [h1], .inl ⟨SqL.of h2, fun l hl => qz.1 l xs hl h3⟩⟩
      · obtain ⟨a, xs, h1, h2, h3⟩ := p1.tup hk
        have w := qz.2 v (tup_of p1 hk)
        rw [h1] at w
        exact ⟨a, xs, by rw [h1], .inr ⟨SqT.of h2, w⟩⟩
    · cases hk
end
end RC

set_option Elab.async false
set_option linter.all false
set_option maxRecDepth 100000
set_option maxHeartbeats 2000000
/-! R5: calls of defs, methods, classes; attributes. -/
namespace RC
open PySem PySem.Spec PyProof.Rows L2

/-- a label's root changed -/
def Lab.re (f : Lab → Lab) : Lab → Lab
  | .sub l s => .sub (l.re f) s
  | l => f l
theorem Lab.re_root (f : Lab → Lab) (hf : ∀ l, (f l).root = f l) : ∀ l : Lab, (l.re f).root = f l.root
  | .sub l s => Lab.re_root f hf l
  | .amb => hf _
  | .slot i => hf _
  | .tmp => hf _
theorem Lab.re_eq (f : Lab → Lab) : ∀ {l : Lab}, f l.root = l.root → l.re f = l
  | .sub l s, h => by unfold Lab.re; rw [Lab.re_eq f (l := l) h]
  | .amb, h => h
  | .slot i, h => h
  | .tmp, h => h
section
variable {g : Ga} {om om' : Om} {H : Hp}
theorem OwnF.relab {f : Lab → Lab} (hh : hide om' H = hide om H) {l : Lab} (k : ∀ a s, om a = some (.sub l s) → om' a = some (.sub (l.re f) s)) : ∀ {s : Str} {o : F} {v : V}, OwnF g om H (.sub l s) o v → OwnF g om' H (.sub (l.re f) s) o v
  | s, .fz d, v, h => by show Hd g (hide om' H) d v; rw [hh]; exact h
  | s, .lst ds, v, ⟨p, xs, h1, h2, h3, h4⟩ => ⟨p, xs, h1, k _ _ h2, h3, by rw [hh]; exact h4⟩
  | s, .dct ds, v, ⟨p, xs, h1, h2, h3, h4⟩ => ⟨p, xs, h1, k _ _ h2, h3, by rw [hh]; exact h4⟩
theorem OwnFs.relab {f : Lab → Lab} (hh : hide om' H = hide om H) {l : Lab} (k : ∀ a s, om a = some (.sub l s) → om' a = some (.sub (l.re f) s)) : ∀ {fs : List (Str × F)} {ws : List (Str × V)}, OwnFs g om H l fs ws → OwnFs g om' H (l.re f) fs ws
  | [], ws, h => h
  | (s, o) :: fs, ws, ⟨v, vs, h1, h2, h3⟩ => ⟨v, vs, h1, OwnF.relab hh k h2, OwnFs.relab hh k h3⟩
theorem Own.relab {f : Lab → Lab} (hh : hide om' H = hide om H) {l : Lab} (k : ∀ a l', om a = some l' → l'.root = l.root → om' a = some (l'.re f)) : ∀ {o : O} {v : V}, Own g om H l o v → Own g om' H (l.re f) o v
  | .lst ds, v, ⟨p, xs, h1, h2, h3, h4⟩ => ⟨p, xs, h1, k _ _ h2 rfl, h3, by rw [hh]; exact h4⟩
  | .dct ds, v, ⟨p, xs, h1, h2, h3, h4⟩ => ⟨p, xs, h1, k _ _ h2 rfl, h3, by rw [hh]; exact h4⟩
  | .obj n fs, v, ⟨p, C, dx, ws, h1, h2, h3, h4, h5⟩ => ⟨p, C, dx, ws, h1, k _ _ h2 rfl, h3, h4, h5.relab hh fun a s e => k a _ e rfl⟩
end
theorem hide_none {om om' : Om} {H : Hp} (h : ∀ a, om a = none ↔ om' a = none) : hide om' H = hide om H := by
  funext a
  unfold hide
  cases h1 : om a with
  | none => rw [(h a).mp h1]
  | some l =>
    cases h2 : om' a with
    | none => rw [(h a).mpr h2] at h1; cases h1
    | some l' => rfl

/-! ### the promise of a def -/
inductive CallR where | ok (r : R) (out : Option O) | rs (x : Exc) (out : Option O) | stuck
def P.s : P → S
  | .fz d => .fz d
  | .bor _ o => .rd o
def ArgOk (g : Ga) (om : Om) (H : Hp) (i : Nat) (v : V) : S → Prop
  | .un => False
  | .fz d => Hd g (hide om H) d v
  | .rd o => ∃ l, l.root = .amb ∧ Own g om H l o v
  | .ow _ => False
  | .mu o => i = 0 ∧ Own g om H (.slot 0) o v
def ArgsOk (g : Ga) (om : Om) (H : Hp) : Nat → List S → List V → Prop
  | _, [], vs => vs = []
  | i, s :: ss, vs => ∃ v r, vs = v :: r ∧ ArgOk g om H i v s ∧ ArgsOk g om H (i + 1) ss r
def OutOk (g : Ga) (om : Om) (H : Hp) (v0 : Option V) : Option O → Prop
  | none => True
  | some o => ∃ v, v0 = some v ∧ Own g om H (.slot 0) o v
def CLands (r : CallR) (A : R → Option O → Prop) (B : Exc → Option O → Prop) : Prop := match r with
  | .ok r out => A r out
  | .rs x out => B x out
  | .stuck => False
def spF (g : Ga) (mf : List S → CallR) : Sp := fun vs H Q E => ∃ om args, (∀ a l, om a = some l → ∃ o, H a = some o) ∧ (∀ a l, om a = some l → l.root ≠ .tmp) ∧ ArgsOk g om H 0 args vs ∧
  CLands (mf args) (fun r out => ∀ v om' H', Keep om H om' H' → (∀ a l, om' a = some l → ∃ o, H' a = some o) → ROk g om' H' r v → OutOk g om' H' vs.head? out → Q v H')
    (fun x out => ∀ c d om' H', Keep om H om' H' → (∀ a l, om' a = some l → ∃ o, H' a = some o) → ExOk g om' H' x c d → OutOk g om' H' vs.head? out → E c d H')

def toAmb : Lab → Lab := fun _ => .amb
theorem args_of {g : Ga} {om om' : Om} {H : Hp} (hh : hide om' H = hide om H) (k : ∀ a l, om a = some l → om' a = some (l.re toAmb)) : ∀ {i : Nat} {ps : List P} {vs : List V}, PsOk g om H ps vs → ArgsOk g om' H i (ps.map P.s) vs
  | i, [], vs, h => h
  | i, .fz d :: ps, vs, ⟨v, r, h1, h2, h3⟩ => ⟨v, r, h1, by show Hd g (hide om' H) d v; rw [hh]; exact h2, args_of hh k h3⟩
  | i, .bor l o :: ps, vs, ⟨v, r, h1, ⟨_, l', _, h4⟩, h3⟩ => ⟨v, r, h1, ⟨l'.re toAmb, Lab.re_root _ (fun _ => rfl) _, h4.relab hh fun a s e _ => k a s e⟩, args_of hh k h3⟩

section
variable {X : Cx} {Z : Zc} {W : WX} {e a b c o : Expr} {es : List Expr} {pos p p2 apos : Pos} {ma mb : Env → Res P} {mr : Env → Res (List P)} {om : Om} {env : Env} {σ : L2.St} {H : Hp}

/-- behind a call whose arguments are only read -/
theorem pure_back {om om0 om' : Om} {H H' : Hp} (tr : ∀ a l, om a = some l → ∃ o, H a = some o) (nt : ∀ a l, om a = some l → l.root ≠ .tmp)
    (h0 : ∀ a l, om a = some l → om0 a = some (l.re toAmb)) (h1 : ∀ a, om a = none → om0 a = none) (k : Keep om0 H om' H') (tr' : ∀ a l, om' a = some l → ∃ o, H' a = some o) :
    Same H H' ∧ Same (hide om' H') (hide om H') ∧ ∃ om2, New om H om2 H' ∧ ∀ r v, ROk Z.g om' H' r v → (∀ l o, r ≠ .bor l o) → ROk Z.g om2 H' r v := by
  have amb : ∀ a l, om a = some l → om' a = some (l.re toAmb) ∧ H' a = H a := fun a l e => k.am a _ (h0 a l e) (Lab.re_root _ (fun _ => rfl) _)
  have old : ∀ a, om a = none → H a ≠ none → om' a = none ∧ H' a = H a := fun a e hn => by
    cases q : H a with
    | none => exact absurd q hn
    | some o =>
      obtain ⟨z1, z2⟩ := hide_iff.mp (k.st a o (hide_iff.mpr ⟨h1 a e, q⟩))
      exact ⟨z1, z2⟩
  have same : Same H H' := fun a o q => by
    cases e : om a with
    | none => rw [(old a e (by rw [q]; exact fun z => by cases z)).2]; exact q
    | some l => rw [(amb a l e).2]; exact q
  refine ⟨same, fun a o q => ?_, ?_⟩
  · obtain ⟨q1, q2⟩ := hide_iff.mp q
    refine hide_iff.mpr ⟨?_, q2⟩
    cases e : om a with
    | none => rfl
    | some l => rw [(amb a l e).1] at q1; cases q1
  · classical
    refine ⟨fun a => if H a = none then (match om' a with
      | some l => if l.root = .tmp then some l else none
      | none => none) else om a, ⟨same, fun a l e => ?_, fun a l e => ?_⟩, fun r v ro nb => ?_⟩
    · obtain ⟨o, q⟩ := tr a l e
      show (if H a = none then _ else om a) = some l
      rw [if_neg (by rw [q]; exact fun z => by cases z)]
      exact e
    · have e' : (if H a = none then (match om' a with
        | some l => if l.root = .tmp then some l else none
        | none => none) else om a) = some l := e
      by_cases hn : H a = none
      · rw [if_pos hn] at e'
        cases q : om' a with
        | none => rw [q] at e'; cases e'
        | some l' =>
          rw [q] at e'
          simp only at e'
          split at e'
          · rename_i ht
            cases e'
            exact .inr ⟨hn, ht, tr' a _ q⟩
          · cases e'
      · rw [if_neg hn] at e'
        exact .inl e'
    · have sub : Same (hide om' H') (hide (fun a => if H a = none then (match om' a with
          | some l => if l.root = .tmp then some l else none
          | none => none) else om a) H') := fun a o q => by
        obtain ⟨q1, q2⟩ := hide_iff.mp q
        refine hide_iff.mpr ⟨?_, q2⟩
        show (if H a = none then _ else om a) = none
        by_cases hn : H a = none
        · rw [if_pos hn, q1]
        · rw [if_neg hn]
          cases e : om a with
          | none => rfl
          | some l => rw [(amb a l e).1] at q1; cases q1
      cases r with
      | fz d => exact Hd.mono sub ro
      | bor l o => exact absurd rfl (nb l o)
      | tmp o =>
        refine Own.mono (r := .tmp) sub (fun a l q ht => ⟨?_, rfl⟩) rfl ro
        show (if H a = none then _ else om a) = some l
        by_cases hn : H a = none
        · rw [if_pos hn, q]
          simp only
          rw [if_pos ht]
        · exfalso
          cases e : om a with
          | none => rw [(old a e hn).1] at q; cases q
          | some l' =>
            rw [(amb a l' e).1] at q
            cases q
            have z := Lab.re_root toAmb (fun _ => rfl) l'
            rw [ht] at z
            cases z

/-- what comes back of a call, as a mirror's answer -/
def mRun (r : CallR) : Res R := match r with
  | .ok (.bor _ _) _ => .stuck
  | .ok r _ => .ok r
  | .rs x _ => .rs x
  | .stuck => .stuck
def mCall (mf : List S → CallR) (mr : Env → Res (List P)) : Env → Res R := fun env => (mr env).bind fun ps => mRun (mf (ps.map P.s))
theorem call_sp {mf : List S → CallR} {Q : VK} {H0 : Hp} {ps : List P} {vs : List V} (rl : Rel Z om σ H env) (e0 : Same H0 H) (po : PsOk Z.g om H ps vs)
    (q : Lands (mRun (mf (ps.map P.s))) (fun r => ∀ v om' H', New om H0 om' H' → ROk Z.g om' H' r v → Q v H') (fun x => ∀ c d H', Same H0 H' → ExOk Z.g om H' x c d → W c d σ H'))
    (tr0 : ∀ a l, om a = some l → ∃ o, H0 a = some o) : spF Z.g mf vs H Q (WE W σ) := by
  have hh : hide (fun a => (om a).map fun l => l.re toAmb) H = hide om H := hide_none fun a => by cases om a <;> simp
  have h0 : ∀ a l, om a = some l → (fun a => (om a).map fun l => l.re toAmb) a = some (l.re toAmb) := fun a l z => by simp [z]
  have h1 : ∀ a, om a = none → (fun a => (om a).map fun l => l.re toAmb) a = none := fun a z => by simp [z]
  refine ⟨fun a => (om a).map fun l => l.re toAmb, ps.map P.s, fun a l z => ?_, fun a l z => ?_, args_of hh h0 po, ?_⟩
  · cases y : om a with
    | none => simp [y] at z
    | some l' => exact rl.tr a l' y
  · cases y : om a with
    | none => simp [y] at z
    | some l' =>
      simp only [y, Option.map_some, Option.some.injEq] at z
      rw [← z, Lab.re_root _ (fun _ => rfl)]
      exact fun w => by cases w
  · cases hm : mf (ps.map P.s) with
    | stuck => rw [hm] at q; exact q
    | rs x out =>
      rw [hm] at q
      intro c d om' H' k tr' ex _
      obtain ⟨s1, s2, _⟩ := pure_back (Z := Z) rl.tr rl.nt h0 h1 k tr'
      refine q c d H' (e0.trans s1) ?_
      obtain ⟨C, x1, x2, x3⟩ := ex
      refine ⟨C, x1, x2, ?_⟩
      cases hf : x.fs with
      | none => rw [hf] at x3; exact x3
      | some fs =>
        rw [hf] at x3
        obtain ⟨dd, ws, y1, y2, y3⟩ := x3
        exact ⟨dd, ws, y1, y2, Hfs.mono s2 y3⟩
    | ok r out =>
      rw [hm] at q
      intro v om' H' k tr' ro _
      cases r with
      | bor l o => exact q.elim
      | fz d =>
        obtain ⟨s1, s2, om2, n, hr⟩ := pure_back (Z := Z) rl.tr rl.nt h0 h1 k tr'
        exact q v om2 H' ⟨e0.trans s1, n.old, fun a l z => (n.new a l z).imp id fun ⟨y, z⟩ => ⟨e0.free y, z⟩⟩ (hr _ _ ro fun l o => by intro z; cases z)
      | tmp o =>
        obtain ⟨s1, s2, om2, n, hr⟩ := pure_back (Z := Z) rl.tr rl.nt h0 h1 k tr'
        exact q v om2 H' ⟨e0.trans s1, n.old, fun a l z => (n.new a l z).imp id fun ⟨y, z⟩ => ⟨e0.free y, z⟩⟩ (hr _ _ ro fun l o => by intro z; cases z)

/-- a def that keeps its promise, by its module's name -/
def Cl (P : Program) (w : World) (g : Ga) (base : Heap) (k : Nat) (x : Str) (mf : List S → CallR) : Prop :=
  ∃ f fd ps, FnOk P w g.K g.mg base (L2.CX P w) k f fd ps (spF g mf) ∧ g.mg x = some (.ref f) ∧ PySem.W.keepIn g.K (.ref f) = true ∧ Binds g.K fd ps []
theorem r_call (kx : Kx X Z W) {mf : List S → CallR} {x : Str} {k : Nat} (F : Cl X.prog X.w Z.g X.base k x mf) (hr : Room k X.A) (ha : PA X (e :: es) (tA Z W mr)) (hg : Gl X x := by rfl) (hdb : (x == ("__debug__" : Str)) = false := by decide)
    (he : starEach (e :: es) X.env = (false, eval e X.env) :: starEach es X.env := by rfl) (hpl : (backTo pos (starEach es X.env)).any (·.1) = false := by rfl) : PE X (.Call (.Name x p) (e :: es) [] pos) (tO Z W (mCall mf mr)) := by
  obtain ⟨f, fd, ps, F1, F2, F3, F4⟩ := F
  rw [kx.gK, kx.gm] at F1
  rw [kx.gm] at F2
  rw [kx.gK] at F3 F4
  refine (pe_callS F1 hr hg F2 F3 F4 kx.esc ha hdb he hpl).pimp fun σ H Q ⟨om, env, rl, q⟩ => ?_
  unfold mCall at q
  refine ⟨om, env, rl, ?_⟩
  cases hm : mr env with
  | stuck => rw [hm] at q; exact q
  | rs x => rw [hm] at q; exact q
  | ok y =>
    rw [hm] at q
    simp only [Res.bind] at q
    exact fun vs H1 e1 po => call_sp (rl.grow e1) e1 po q rl.tr

/-! methods -/
theorem pe_methS {k : Nat} {f C : Addr} {fd : FuncData} {ps : List Str} {sp : Sp} {E : L2.St → XK} {m : Str} {ta : TE} {t : TA} {pl : Sem Bool} (he : PE X o ta) (c : Cls X.K C) (hm : Meth X.K C m f) (F : FnOk X.prog X.w X.K X.mg X.base (L2.CX X.prog X.w) k f fd ps sp) (hr : Room k X.A) (hb : Binds X.K fd ps []) (hx : ∀ σ, PassesAt (L2.CX X.prog X.w) X σ (E σ)) (ha : PA X (e :: es) t)
    (hst : starEach (e :: es) X.env = (false, eval e X.env) :: starEach es X.env := by rfl) (hpl : (backTo pos (starEach es X.env)).any (·.1) = false := by rfl)
    (ht : eval (.Call (.Attribute o m apos) (e :: es) [] pos) X.env = (do
      let ov ← eval o X.env
      standAt apos.atName
      let (f, first) ← holding [ov] (getMethod ov m pl)
      callWith pos f first (backTo pos (starEach (e :: es) X.env)) (backToKw pos (keywordEach [] X.env))) := by rfl) :
    PE X (.Call (.Attribute o m apos) (e :: es) [] pos) (fun σ H Q => ta σ H fun x H1 => ∃ a dx fs, x = .ref a ∧ H1 a = some (.ins C dx fs) ∧ fs.lookup m = none ∧ t σ H1 fun vs H2 => sp (x :: vs) H2 Q (E σ)) := by
  refine ⟨fun pins s σ H Q I h => ?_⟩
  refine PySem.W.methodCall_KW (pl := pl) (thn (he.run pins s σ H _ I h) fun u s1 ⟨x, H1, I1, rx, a, dx, fs, ex, ea, l, q⟩ => ?_) ht
  subst ex
  obtain rfl : u = Value.ref a := rx
  refine getmeth_ok I1 ea c hm l ?_
  refine PySem.W.callWith_K (first := [.ref a]) (h₀ := X.base) I.ok.mod.kin hm.kp (thn (ha.run pos pins s1 σ H1 _ I1 q) fun us s2 ⟨vs, H2, I2, r, q2⟩ => ⟨I2.kIn, ?_⟩) hst hpl
  exact run_fnS (us := .ref a :: us) (vs := .ref a :: vs) F hr hb (hx σ) I2 (.cons rfl r) q2
theorem pe_meth0S {k : Nat} {f C : Addr} {fd : FuncData} {ps : List Str} {sp : Sp} {E : L2.St → XK} {m : Str} {ta : TE} {pl : Sem Bool} (he : PE X o ta) (c : Cls X.K C) (hm : Meth X.K C m f) (F : FnOk X.prog X.w X.K X.mg X.base (L2.CX X.prog X.w) k f fd ps sp) (hr : Room k X.A) (hb : Binds X.K fd ps []) (hx : ∀ σ, PassesAt (L2.CX X.prog X.w) X σ (E σ))
    (ht : eval (.Call (.Attribute o m apos) [] [] pos) X.env = (do
      let ov ← eval o X.env
      standAt apos.atName
      let (f, first) ← holding [ov] (getMethod ov m pl)
      callWith pos f first (backTo pos (starEach [] X.env)) (backToKw pos (keywordEach [] X.env))) := by rfl) :
    PE X (.Call (.Attribute o m apos) [] [] pos) (fun σ H Q => ta σ H fun x H1 => ∃ a dx fs, x = .ref a ∧ H1 a = some (.ins C dx fs) ∧ fs.lookup m = none ∧ sp [x] H1 Q (E σ)) := by
  refine ⟨fun pins s σ H Q I h => ?_⟩
  refine PySem.W.methodCall_KW (pl := pl) (thn (he.run pins s σ H _ I h) fun u s1 ⟨x, H1, I1, rx, a, dx, fs, ex, ea, l, q⟩ => ?_) ht
  subst ex
  obtain rfl : u = Value.ref a := rx
  refine getmeth_ok I1 ea c hm l ?_
  exact PySem.W.callWith_K0 (first := [.ref a]) I1.kIn hm.kp (run_fnS (us := [.ref a]) (vs := [.ref a]) F hr hb (hx σ) I1 (.cons rfl .nil) q)
/-- an object: its class's name and the names of its fields -/
def P.obj? : P → Option (Str × List Str)
  | .fz (.obj n fs) => some (n, fs.map (·.1))
  | .bor _ (.obj n fs) => some (n, fs.map (·.1))
  | _ => none
theorem Hfs.keys {g : Ga} {H : Hp} : ∀ {fs : List (Str × D)} {ws : List (Str × V)}, Hfs g H fs ws → fs.map (·.1) = ws.map (·.1)
  | [], ws, h => by unfold Hfs at h; rw [h]; rfl
  | (f, d) :: fs, ws, h => by
    unfold Hfs at h
    obtain ⟨v, vs, rfl, _, h3⟩ := h
    simp [Hfs.keys h3]
theorem OwnFs.keys {g : Ga} {om : Om} {H : Hp} {l : Lab} : ∀ {fs : List (Str × F)} {ws : List (Str × V)}, OwnFs g om H l fs ws → fs.map (·.1) = ws.map (·.1)
  | [], ws, h => by rw [show ws = [] from h]; rfl
  | (f, d) :: fs, ws, ⟨v, vs, h1, _, h3⟩ => by subst h1; simp [OwnFs.keys h3]
theorem POk.obj {g : Ga} {x : P} {v : V} {n : Str} {ks : List Str} (h : POk g om H x v) (e : x.obj? = some (n, ks)) : ∃ a C dx ws, v = .ref a ∧ g.mg n = some (.ref C) ∧ H a = some (.ins C dx ws) ∧ ws.map (·.1) = ks := by
  cases x with
  | fz d =>
    cases d <;> simp [P.obj?] at e
    obtain ⟨rfl, rfl⟩ := e
    simp only [POk, Hd] at h
    obtain ⟨a, C, dx, ws, h1, h2, h3, h4⟩ := h
    exact ⟨a, C, dx, ws, h1, h2, hide_same _ _ h3, h4.keys.symm⟩
  | bor l o =>
    cases o <;> simp [P.obj?] at e
    obtain ⟨rfl, rfl⟩ := e
    obtain ⟨_, _, _, a, C, dx, ws, h1, _, h2, h3, h4⟩ := h
    exact ⟨a, C, dx, ws, h1, h2, h3, h4.keys.symm⟩
theorem lookup_none_of {α : Type} {m : Str} : ∀ {ws : List (Str × α)}, m ∉ ws.map (·.1) → ws.lookup m = none
  | [], _ => rfl
  | (k, v) :: ws, h => by
    simp only [List.map_cons, List.mem_cons, not_or] at h
    rw [List.lookup_cons]
    have : (m == k) = false := by simpa using h.1
    rw [this]
    exact lookup_none_of h.2
structure Clm (P : Program) (w : World) (g : Ga) (base : Heap) (k : Nat) (n m : Str) (mf : List S → CallR) : Prop where
  ex : ∃ C f fd ps, g.mg n = some (.ref C) ∧ Cls g.K C ∧ Meth g.K C m f ∧ FnOk P w g.K g.mg base (L2.CX P w) k f fd ps (spF g mf) ∧ Binds g.K fd ps []
/-- is it an object of the class, with no such field -/
def isObj (n m : Str) (x : P) : Bool := match x.obj? with
  | some (n', ks) => decide (n' = n) && decide (m ∉ ks)
  | none => false
theorem isObj_ok {g : Ga} {x : P} {v : V} {n m : Str} {C : Addr} (h : POk g om H x v) (e : isObj n m x = true) (hC : g.mg n = some (.ref C)) : ∃ a dx ws, v = .ref a ∧ H a = some (.ins C dx ws) ∧ ws.lookup m = none := by
  unfold isObj at e
  cases ho : x.obj? with
  | none => rw [ho] at e; cases e
  | some q =>
    obtain ⟨n', ks⟩ := q
    rw [ho] at e
    simp only [Bool.and_eq_true, decide_eq_true_eq] at e
    obtain ⟨e1, e2⟩ := e
    subst e1
    obtain ⟨a, C', dx, ws, h1, h2, h3, h4⟩ := h.obj ho
    rw [hC] at h2
    cases h2
    exact ⟨a, dx, ws, h1, h3, lookup_none_of (by rw [h4]; exact e2)⟩
def mMeth (n m : Str) (mf : List S → CallR) (ma : Env → Res P) (mr : Env → Res (List P)) : Env → Res R := fun env => (ma env).bind fun x => if isObj n m x = true then (mr env).bind fun ps => mRun (mf (x.s :: ps.map P.s)) else .stuck
theorem r_meth (kx : Kx X Z W) {mf : List S → CallR} {n m : Str} {k : Nat} (F : Clm X.prog X.w Z.g X.base k n m mf) (hr : Room k X.A) (ho : PE X o (tP Z W ma)) (ha : PA X (e :: es) (tA Z W mr)) {pl : Sem Bool}
    (hst : starEach (e :: es) X.env = (false, eval e X.env) :: starEach es X.env := by rfl) (hpl : (backTo pos (starEach es X.env)).any (·.1) = false := by rfl)
    (ht : eval (.Call (.Attribute o m apos) (e :: es) [] pos) X.env = (do
      let ov ← eval o X.env
      standAt apos.atName
      let (f, first) ← holding [ov] (getMethod ov m pl)
      callWith pos f first (backTo pos (starEach (e :: es) X.env)) (backToKw pos (keywordEach [] X.env))) := by rfl) :
    PE X (.Call (.Attribute o m apos) (e :: es) [] pos) (tO Z W (mMeth n m mf ma mr)) := by
  obtain ⟨C, f, fd, ps, F1, F2, F3, F4, F5⟩ := F.ex
  rw [kx.gK] at F2 F3 F5
  rw [kx.gK, kx.gm] at F4
  refine (pe_methS ho F2 F3 F4 hr F5 kx.esc ha hst hpl ht).pimp fun σ H Q ⟨om, env, rl, q⟩ => ?_
  unfold mMeth at q
  refine ⟨om, env, rl, ?_⟩
  cases hm : ma env with
  | stuck => rw [hm] at q; exact q
  | rs x => rw [hm] at q; exact q
  | ok x =>
    rw [hm] at q
    simp only [Res.bind] at q
    intro v H1 e1 p1
    by_cases hi : isObj n m x = true
    · rw [if_pos hi] at q
      obtain ⟨a, dx, ws, h1, h2, h3⟩ := isObj_ok p1 hi F1
      refine ⟨a, dx, ws, h1, h2, h3, ?_⟩
      refine ⟨om, env, rl.grow e1, ?_⟩
      cases hr : mr env with
      | stuck => rw [hr] at q; exact q
      | rs x => rw [hr] at q; exact fun c d H' e2 => q c d H' (e1.trans e2)
      | ok y =>
        rw [hr] at q
        exact fun vs H2 e2 po => call_sp (ps := x :: y) (rl.grow (e1.trans e2)) (e1.trans e2) ⟨v, vs, rfl, p1.grow (rl.grow e1).tr e2, po⟩ q rl.tr
    · rw [if_neg hi] at q
      exact q.elim
theorem r_meth0 (kx : Kx X Z W) {mf : List S → CallR} {n m : Str} {k : Nat} (F : Clm X.prog X.w Z.g X.base k n m mf) (hr : Room k X.A) (ho : PE X o (tP Z W ma)) {pl : Sem Bool}
    (ht : eval (.Call (.Attribute o m apos) [] [] pos) X.env = (do
      let ov ← eval o X.env
      standAt apos.atName
      let (f, first) ← holding [ov] (getMethod ov m pl)
      callWith pos f first (backTo pos (starEach [] X.env)) (backToKw pos (keywordEach [] X.env))) := by rfl) :
    PE X (.Call (.Attribute o m apos) [] [] pos) (tO Z W (mMeth n m mf ma mNil)) := by
  obtain ⟨C, f, fd, ps, F1, F2, F3, F4, F5⟩ := F.ex
  rw [kx.gK] at F2 F3 F5
  rw [kx.gK, kx.gm] at F4
  refine (pe_meth0S ho F2 F3 F4 hr F5 kx.esc ht).pimp fun σ H Q ⟨om, env, rl, q⟩ => ?_
  unfold mMeth at q
  refine ⟨om, env, rl, ?_⟩
  cases hm : ma env with
  | stuck => rw [hm] at q; exact q
  | rs x => rw [hm] at q; exact q
  | ok x =>
    rw [hm] at q
    simp only [Res.bind] at q
    intro v H1 e1 p1
    by_cases hi : isObj n m x = true
    · rw [if_pos hi] at q
      obtain ⟨a, dx, ws, h1, h2, h3⟩ := isObj_ok p1 hi F1
      exact ⟨a, dx, ws, h1, h2, h3, call_sp (ps := [x]) (rl.grow e1) e1 ⟨v, [], rfl, p1, rfl⟩ q rl.tr⟩
    · rw [if_neg hi] at q
      exact q.elim

/-! a new instance -/
theorem pe_makeS {k : Nat} {f C : Addr} {fd : FuncData} {ps : List Str} {sp : Sp} {E : L2.St → XK} {x : Str} {t : TA} (M : Mk X.K C f) (F : FnOk X.prog X.w X.K X.mg X.base (L2.CX X.prog X.w) k f fd ps sp) (hr : Room (k + 1) X.A) (hg : Gl X x) (hm : X.mg x = some (.ref C)) (hb : Binds X.K fd ps []) (hx : ∀ σ, PassesAt (L2.CX X.prog X.w) X σ (E σ))
    (ha : PA X (e :: es) t) (hdb : (x == ("__debug__" : Str)) = false := by decide) (he : starEach (e :: es) X.env = (false, eval e X.env) :: starEach es X.env := by rfl) (hpl : (backTo pos (starEach es X.env)).any (·.1) = false := by rfl) :
    PE X (.Call (.Name x p) (e :: es) [] pos) (fun σ H Q => t σ H fun vs H1 => ∀ x dx, H1 x = none → H1 dx = none → dx ≠ x → sp (.ref x :: vs) (upd (upd H1 dx (.own x)) x (.ins C dx [])) (fun v H2 => v = .non ∧ Q (.ref x) H2) (E σ)) := by
  refine ⟨fun pins s σ H Q I h => ?_⟩
  refine wpAny_Call_Name_kw (ld_glob I hg hm ?_ hdb)
  refine PySem.W.callWith_K (h₀ := X.base) I.ok.mod.kin M.kp (thn (ha.run pos pins s σ H _ I h) fun us s1 ⟨vs, H1, I1, r, q⟩ => ⟨I1.kIn, ?_⟩) he hpl
  have hq := q (s1.heap.objs.size + 1) s1.heap.objs.size (I1.hok.fresh (Nat.le_succ _)) (I1.hok.fresh (Nat.le_refl _)) (Nat.ne_of_lt (Nat.lt_succ_self _))
  have I2 := Inv.made (C := C) I1
  have r2 : Vals (V.ref (s1.heap.objs.size + 1) :: vs) (Value.ref (s1.heap.objs.size + 1) :: us) := .cons rfl r
  have hl : (Value.ref (s1.heap.objs.size + 1) :: us).length = ps.length := by
    have e := r2.length
    rw [F.len _ _ _ _ hq] at e
    exact e.symm
  have hb2 := hb _ (Value.ref (s1.heap.objs.size + 1) :: us) I2.kIn (by rw [List.append_nil]; exact hl)
  rw [List.append_nil] at hb2
  refine wpAny_call (make_map (f := f) I1.kIn M.makes M.init (beq_iff_eq.mp M.fn) (codeAny_mono (F.run _ X.stack _ _ ⟨Value.ref (s1.heap.objs.size + 1) :: us, []⟩ (Value.ref (s1.heap.objs.size + 1) :: us) _ _ (E σ) (hr.make C us [])
    (I2.env0.make C us []) hb2 r2 hq) fun r s' hq' => ?_))
  cases r with
  | error e => exact hx σ pins _ _ e s' I2 hq'
  | ok fl =>
    cases fl with
    | ret u =>
      obtain ⟨v, H', I3, rv, ev, q3⟩ := I2.after hq'
      subst ev
      exact ⟨rv, ⟨V.ref (s1.heap.objs.size + 1), H', I3, rfl, q3⟩⟩
    | next => exact False.elim hq'
    | brk => exact False.elim hq'
    | cont => exact False.elim hq'
structure Clc (P : Program) (w : World) (g : Ga) (base : Heap) (k : Nat) (n : Str) (mf : List S → CallR) : Prop where
  ex : ∃ C f fd ps, g.mg n = some (.ref C) ∧ Mk g.K C f ∧ FnOk P w g.K g.mg base (L2.CX P w) k f fd ps (spF g mf) ∧ Binds g.K fd ps []
def mMade (r : CallR) : Res R := match r with
  | .ok (.fz .non) (some o) => .ok (.tmp o)
  | .rs x _ => .rs x
  | _ => .stuck
def mMake (n : Str) (mf : List S → CallR) (mr : Env → Res (List P)) : Env → Res R := fun env => (mr env).bind fun ps => mMade (mf (.mu (.obj n []) :: ps.map P.s))
def toTmp : Lab → Lab
  | .slot _ => .tmp
  | .sub l s => .sub l s
  | l => l
theorem r_make (kx : Kx X Z W) {mf : List S → CallR} {n : Str} {k : Nat} (F : Clc X.prog X.w Z.g X.base k n mf) (hr : Room (k + 1) X.A) (ha : PA X (e :: es) (tA Z W mr)) (hg : Gl X n := by rfl) (hdb : (n == ("__debug__" : Str)) = false := by decide)
    (he : starEach (e :: es) X.env = (false, eval e X.env) :: starEach es X.env := by rfl) (hpl : (backTo pos (starEach es X.env)).any (·.1) = false := by rfl) :
    PE X (.Call (.Name n p) (e :: es) [] pos) (tO Z W (mMake n mf mr)) := by
  obtain ⟨C, f, fd, ps, F1, F2, F4, F5⟩ := F.ex
  rw [kx.gK] at F2 F5
  rw [kx.gK, kx.gm] at F4
  have F1' := F1
  rw [kx.gm] at F1'
  refine (pe_makeS F2 F4 hr hg F1' F5 kx.esc ha hdb he hpl).pimp fun σ H Q ⟨om, env, rl, q⟩ => ?_
  unfold mMake at q
  refine ⟨om, env, rl, ?_⟩
  cases hm : mr env with
  | stuck => rw [hm] at q; exact q
  | rs x => rw [hm] at q; exact q
  | ok y =>
    rw [hm] at q
    simp only [Res.bind] at q
    intro vs H1 e1 po x dx hx hdx hne
    have rl1 := rl.grow e1
    have ox : om x = none := om_none rl1.tr hx
    have odx : om dx = none := om_none rl1.tr hdx
    have sn : Same H1 (upd (upd H1 dx (.own x)) x (.ins C dx [])) := fun a u q => by rw [upd_ne (ne_of_none q hx), upd_ne (ne_of_none q hdx)]; exact q
    have pog : PsOk Z.g om (upd (upd H1 dx (.own x)) x (.ins C dx [])) y vs := po.grow rl1.tr sn
    have h0 : ∀ a l, om a = some l → lab (fun a => (om a).map fun l => l.re toAmb) x (.slot 0) a = some (l.re toAmb) := fun a l z => by
      rw [lab_ne (fun w => by subst w; rw [ox] at z; cases z), z]; rfl
    have h1 : ∀ a, a ≠ x → om a = none → lab (fun a => (om a).map fun l => l.re toAmb) x (.slot 0) a = none := fun a w z => by rw [lab_ne w, z]; rfl
    have hh : hide (fun a => (om a).map fun l => l.re toAmb) (upd (upd H1 dx (.own x)) x (.ins C dx [])) = hide om (upd (upd H1 dx (.own x)) x (.ins C dx [])) := hide_none fun a => by cases om a <;> simp
    -- the arguments in the callee's labelling: x itself hidden
    have hx2 : ∀ a u, hide om H1 a = some u → hide (lab (fun a => (om a).map fun l => l.re toAmb) x (.slot 0)) (upd (upd H1 dx (.own x)) x (.ins C dx [])) a = some u := fun a u z => by
      obtain ⟨z1, z2⟩ := hide_iff.mp z
      have hax : a ≠ x := ne_of_none z2 hx
      exact hide_iff.mpr ⟨h1 a hax z1, by rw [upd_ne hax, upd_ne (ne_of_none z2 hdx)]; exact z2⟩
    have args : ∀ {i : Nat} {ps : List P} {vs : List V}, PsOk Z.g om H1 ps vs → ArgsOk Z.g (lab (fun a => (om a).map fun l => l.re toAmb) x (.slot 0)) (upd (upd H1 dx (.own x)) x (.ins C dx [])) i (ps.map P.s) vs := by
      intro i ps
      induction ps generalizing i with
      | nil => intro vs h; exact h
      | cons q ps ih =>
        intro vs h
        obtain ⟨v, r, h2, h3, h4⟩ := h
        refine ⟨v, r, h2, ?_, ih h4⟩
        cases q with
        | fz d => exact Hd.mono hx2 h3
        | bor l o =>
          obtain ⟨_, l', _, h5⟩ := h3
          refine ⟨l'.re toAmb, Lab.re_root _ (fun _ => rfl) _, ?_⟩
          have h6 : Own Z.g (fun a => (om a).map fun l => l.re toAmb) H1 (l'.re toAmb) o v := h5.relab (hide_none fun a => by cases om a <;> simp) fun a s e _ => by show (om a).map _ = _; rw [e]; rfl
          refine h6.mono (r := .amb) (fun a u z => hx2 a u ?_) (fun a s e _ => ?_) (Lab.re_root _ (fun _ => rfl) _)
          · rw [hide_none (om := om) (om' := fun a => (om a).map fun l => l.re toAmb) fun a => by cases om a <;> simp] at z
            exact z
          · cases w : om a with
            | none => have e' : (om a).map (fun l => l.re toAmb) = some s := e; rw [w] at e'; cases e'
            | some l0 =>
              have e' : (om a).map (fun l => l.re toAmb) = some s := e
              rw [w] at e'
              cases e'
              obtain ⟨u, z⟩ := rl1.tr a l0 w
              exact ⟨h0 a l0 w, by rw [upd_ne (ne_of_none z hx), upd_ne (ne_of_none z hdx)]⟩
    refine ⟨lab (fun a => (om a).map fun l => l.re toAmb) x (.slot 0), .mu (.obj n []) :: y.map P.s, fun a l z => ?_, fun a l z => ?_, ⟨_, _, rfl, ⟨rfl, x, C, dx, [], rfl, lab_same, F1, upd_same, rfl⟩, args po⟩, ?_⟩
    · by_cases w : a = x
      · subst w; exact ⟨_, upd_same⟩
      · rw [lab_ne w] at z
        cases y : om a with
        | none => simp [y] at z
        | some l' => obtain ⟨u, z⟩ := rl1.tr a l' y; exact ⟨u, sn a u z⟩
    · by_cases w : a = x
      · subst w; rw [lab_same] at z; cases z; exact fun w => by cases w
      · rw [lab_ne w] at z
        cases y : om a with
        | none => simp [y] at z
        | some l' =>
          simp only [y, Option.map_some, Option.some.injEq] at z
          rw [← z, Lab.re_root _ (fun _ => rfl)]
          exact fun w => by cases w
    · -- behind __init__
      have fact : ∀ om' H', Keep (lab (fun a => (om a).map fun l => l.re toAmb) x (.slot 0)) (upd (upd H1 dx (.own x)) x (.ins C dx [])) om' H' →
          (∀ a l, om a = some l → om' a = some (l.re toAmb) ∧ H' a = H1 a) ∧ (∀ a, om a = none → H1 a ≠ none → om' a = none ∧ H' a = H1 a) := fun om' H' k => by
        refine ⟨fun a l e => ?_, fun a e hn => ?_⟩
        · obtain ⟨u, z⟩ := rl1.tr a l e
          obtain ⟨z1, z2⟩ := k.am a _ (h0 a l e) (Lab.re_root _ (fun _ => rfl) _)
          exact ⟨z1, by rw [z2, upd_ne (ne_of_none z hx), upd_ne (ne_of_none z hdx)]⟩
        · cases q : H1 a with
          | none => exact absurd q hn
          | some u =>
            obtain ⟨z1, z2⟩ := hide_iff.mp (k.st a u (hx2 a u (hide_iff.mpr ⟨e, q⟩)))
            exact ⟨z1, z2⟩
      have same : ∀ om' H', Keep (lab (fun a => (om a).map fun l => l.re toAmb) x (.slot 0)) (upd (upd H1 dx (.own x)) x (.ins C dx [])) om' H' → Same H1 H' := fun om' H' k a u q => by
        obtain ⟨f1, f2⟩ := fact om' H' k
        cases e : om a with
        | none => rw [(f2 a e (by rw [q]; exact fun z => by cases z)).2]; exact q
        | some l => rw [(f1 a l e).2]; exact q
      cases hf : mf (.mu (.obj n []) :: y.map P.s) with
      | stuck => rw [hf] at q; exact q
      | rs z out =>
        rw [hf] at q
        intro c d om' H' k tr' ex _
        obtain ⟨f1, f2⟩ := fact om' H' k
        refine q c d H' (e1.trans (same om' H' k)) ?_
        obtain ⟨C, x1, x2, x3⟩ := ex
        refine ⟨C, x1, x2, ?_⟩
        cases hf : z.fs with
        | none => rw [hf] at x3; exact x3
        | some fs =>
          rw [hf] at x3
          obtain ⟨dd, ws, y1, y2, y3⟩ := x3
          refine ⟨dd, ws, y1, y2, Hfs.mono (fun a u w => ?_) y3⟩
          obtain ⟨q1, q2⟩ := hide_iff.mp w
          refine hide_iff.mpr ⟨?_, q2⟩
          cases e : om a with
          | none => rfl
          | some l => rw [(f1 a l e).1] at q1; cases q1
      | ok r out =>
        rw [hf] at q
        intro v om' H' k tr' ro oo
        cases r with
        | bor l o => exact q.elim
        | tmp o => exact q.elim
        | fz d =>
          cases d <;> try exact q.elim
          cases out with
          | none => exact q.elim
          | some o =>
            obtain ⟨f1, f2⟩ := fact om' H' k
            obtain ⟨w, hw, ow⟩ := oo
            cases hw
            refine ⟨by simpa [ROk, Hd] using ro, ?_⟩
            classical
            have fresh : ∀ a l, om' a = some l → l.root = .slot 0 → H1 a = none := fun a l e hr => by
              cases q : H1 a with
              | none => rfl
              | some u =>
                exfalso
                cases e2 : om a with
                | none => rw [(f2 a e2 (by rw [q]; exact fun z => by cases z)).1] at e; cases e
                | some l' =>
                  rw [(f1 a l' e2).1] at e
                  cases e
                  rw [Lab.re_root _ (fun _ => rfl)] at hr
                  cases hr
            refine q (.ref x) (fun a => if H1 a = none then (match om' a with
              | some l => if l.root = .slot 0 then some (l.re toTmp) else none
              | none => none) else om a) H' ⟨e1.trans (same om' H' k), fun a l e => ?_, fun a l e => ?_⟩ ?_
            · obtain ⟨u, z⟩ := rl1.tr a l e
              show (if H1 a = none then _ else om a) = some l
              rw [if_neg (by rw [z]; exact fun z => by cases z)]
              exact e
            · have e' : (if H1 a = none then (match om' a with
                | some l => if l.root = .slot 0 then some (l.re toTmp) else none
                | none => none) else om a) = some l := e
              by_cases hn : H1 a = none
              · rw [if_pos hn] at e'
                cases q : om' a with
                | none => rw [q] at e'; cases e'
                | some l' =>
                  rw [q] at e'
                  simp only at e'
                  split at e'
                  · rename_i ht
                    cases e'
                    refine .inr ⟨e1.free hn, ?_, tr' a _ q⟩
                    have z : ∀ l : Lab, l.root = .slot 0 → (l.re toTmp).root = .tmp := fun l => by
                      induction l with
                      | sub l s ih => exact ih
                      | amb => intro h; cases h
                      | slot i => intro h; rfl
                      | tmp => intro h; cases h
                    exact z l' ht
                  · cases e'
              · rw [if_neg hn] at e'
                exact .inl e'
            · -- the object, now temporarily owned
              show Own Z.g _ H' .tmp o (.ref x)
              have sub : Same (hide om' H') (hide (fun a => if H1 a = none then (match om' a with
                | some l => if l.root = .slot 0 then some (l.re toTmp) else none
                | none => none) else om a) H') := fun a u q => by
                obtain ⟨q1, q2⟩ := hide_iff.mp q
                refine hide_iff.mpr ⟨?_, q2⟩
                show (if H1 a = none then _ else om a) = none
                by_cases hn : H1 a = none
                · rw [if_pos hn, q1]
                · rw [if_neg hn]
                  cases e : om a with
                  | none => rfl
                  | some l => rw [(f1 a l e).1] at q1; cases q1
              -- first keep the labels, then change them
              have s1 : Own Z.g (fun a => if H1 a = none then (match om' a with
                | some l => if l.root = .slot 0 then some l else none
                | none => none) else (om a).map fun _ => Lab.amb) H' (.slot 0) o (.ref x) := by
                refine ow.mono (r := .slot 0) (fun a u q => ?_) (fun a l e hr => ⟨?_, rfl⟩) rfl
                · obtain ⟨q1, q2⟩ := hide_iff.mp (sub a u q)
                  refine hide_iff.mpr ⟨?_, q2⟩
                  have q1' : (if H1 a = none then (match om' a with
                    | some l => if l.root = .slot 0 then some (l.re toTmp) else none
                    | none => none) else om a) = none := q1
                  show (if H1 a = none then _ else _) = none
                  by_cases hn : H1 a = none
                  · rw [if_pos hn] at q1' ⊢
                    cases w : om' a with
                    | none => rfl
                    | some l =>
                      rw [w] at q1'
                      simp only at q1' ⊢
                      split at q1'
                      · cases q1'
                      · rename_i h; rw [if_neg h]
                  · rw [if_neg hn] at q1' ⊢
                    rw [q1']; rfl
                · show (if H1 a = none then _ else _) = some l
                  rw [if_pos (fresh a l e hr), e]
                  simp only
                  rw [if_pos hr]
              have s2 := s1.relab (f := toTmp) (om' := fun a => if H1 a = none then (match om' a with
                | some l => if l.root = .slot 0 then some (l.re toTmp) else none
                | none => none) else om a) (hide_none fun a => by
                  show (if H1 a = none then _ else _) = none ↔ (if H1 a = none then _ else om a) = none
                  by_cases hn : H1 a = none
                  · rw [if_pos hn, if_pos hn]
                    cases om' a with
                    | none => exact Iff.rfl
                    | some l =>
                      simp only
                      split <;> simp
                  · rw [if_neg hn, if_neg hn]
                    cases om a <;> simp) (fun a l e hr => by
                  have e' : (if H1 a = none then (match om' a with
                    | some l => if l.root = .slot 0 then some l else none
                    | none => none) else (om a).map fun _ => Lab.amb) = some l := e
                  show (if H1 a = none then _ else om a) = some (l.re toTmp)
                  by_cases hn : H1 a = none
                  · rw [if_pos hn] at e' ⊢
                    cases w : om' a with
                    | none => rw [w] at e'; cases e'
                    | some l0 =>
                      rw [w] at e'
                      simp only at e' ⊢
                      split at e'
                      · rename_i h
                        cases e'
                        rw [if_pos h]
                      · cases e'
                  · exfalso
                    rw [if_neg hn] at e'
                    cases w : om a with
                    | none => rw [w] at e'; cases e'
                    | some l0 => rw [w] at e'; cases e'; cases hr)
              exact s2

/-! attributes -/
def kAtt (n f : Str) : P → Option P
  | .fz (.obj n' fs) => if n' = n then (fs.lookup f).map P.fz else none
  | .bor l (.obj n' fs) => if n' = n then match fs.lookup f with
    | some (.fz d) => some (.fz d)
    | some (.lst ds) => some (.bor l (.lst ds))
    | some (.dct ds) => some (.bor l (.dct ds))
    | none => none
    else none
  | _ => none
theorem Hfs.look {g : Ga} {H : Hp} {f : Str} : ∀ {fs : List (Str × D)} {ws : List (Str × V)} {d : D}, Hfs g H fs ws → fs.lookup f = some d → ∃ v, ws.lookup f = some v ∧ Hd g H d v
  | [], ws, d, h, e => by cases e
  | (k, d0) :: fs, ws, d, h, e => by
    unfold Hfs at h
    obtain ⟨v, vs, rfl, h2, h3⟩ := h
    rw [List.lookup_cons] at e ⊢
    cases hb : f == k with
    | true => rw [hb] at e; cases e; exact ⟨v, rfl, h2⟩
    | false => rw [hb] at e; exact Hfs.look h3 e
theorem OwnFs.look {g : Ga} {om : Om} {H : Hp} {f : Str} {l : Lab} : ∀ {fs : List (Str × F)} {ws : List (Str × V)} {d : F}, OwnFs g om H l fs ws → fs.lookup f = some d → ∃ v, ws.lookup f = some v ∧ OwnF g om H (.sub l f) d v
  | [], ws, d, h, e => by cases e
  | (k, d0) :: fs, ws, d, ⟨v, vs, h1, h2, h3⟩, e => by
    subst h1
    rw [List.lookup_cons] at e ⊢
    cases hb : f == k with
    | true =>
      have : f = k := by simpa using hb
      subst this
      rw [hb] at e; cases e; exact ⟨v, rfl, h2⟩
    | false => rw [hb] at e; exact OwnFs.look h3 e
def mAtt (n f : Str) (ma : Env → Res P) : Env → Res P := one1 (kAtt n f) ma
theorem r_att (kx : Kx X Z W) {n f : Str} {C : Addr} (hC : Z.g.mg n = some (.ref C)) (c : Cls Z.g.K C) (na : NoAttr Z.g.K C f) (ho : PE X o (tP Z W ma)) (hb : attributeBase o f X.env (eval o X.env) = eval o X.env := by rfl) :
    PE X (.Attribute o f pos) (tP Z W (mAtt n f ma)) := (pe_fld ho hb).pimp fun σ H Q ⟨om, env, rl, q⟩ => by
  refine one (k := kAtt n f) (B := fun z H' => ∀ v, POk Z.g om H' z v → Q v H') rl ?_ fun x v H' e rl' p1 z hk qz => ?_
  · unfold mAtt at q
    cases hm : one1 (kAtt n f) ma env with
    | stuck => rw [hm] at q; exact q
    | rs x => rw [hm] at q; exact q
    | ok x => rw [hm] at q; exact fun H' e v hv => q v H' e hv
  · have qz := qz H' (Same.refl _)
    rw [kx.gK] at c na
    cases x with
    | fz d =>
      cases d <;> simp only [kAtt, reduceCtorEq] at hk
      split at hk
      · rename_i n' fs hn
        subst hn
        cases hl : fs.lookup f with
        | none => rw [hl] at hk; cases hk
        | some d =>
          rw [hl] at hk
          cases hk
          simp only [POk, Hd] at p1
          obtain ⟨a, C', dx, ws, h1, h2, h3, h4⟩ := p1
          rw [hC] at h2
          cases h2
          obtain ⟨u, h5, h6⟩ := h4.look hl
          exact ⟨a, C, dx, ws, u, h1, hide_same _ _ h3, c, na, h5, qz u h6⟩
      · cases hk
    | bor l o =>
      cases o <;> simp only [kAtt, reduceCtorEq] at hk
      split at hk
      · rename_i n' fs hn
        subst hn
        obtain ⟨nt, l', hl', a, C', dx, ws, h1, _, h2, h3, h4⟩ := p1
        rw [hC] at h2
        cases h2
        split at hk
        · rename_i d hl
          cases hk
          obtain ⟨u, h5, h6⟩ := h4.look hl
          exact ⟨a, C, dx, ws, u, h1, h3, c, na, h5, qz u h6⟩
        · rename_i d hl
          cases hk
          obtain ⟨u, h5, h6⟩ := h4.look hl
          exact ⟨a, C, dx, ws, u, h1, h3, c, na, h5, qz u ⟨nt, .sub l' f, hl', h6⟩⟩
        · rename_i d hl
          cases hk
          obtain ⟨u, h5, h6⟩ := h4.look hl
          exact ⟨a, C, dx, ws, u, h1, h3, c, na, h5, qz u ⟨nt, .sub l' f, hl', h6⟩⟩
        · cases hk
      · cases hk
end
end RC

set_option Elab.async false
set_option linter.all false
set_option maxRecDepth 100000
set_option maxHeartbeats 2000000
/-! R6: statements, loops, whole defs. -/
namespace RC
open PySem PySem.Spec PyProof.Rows L2

def FLands (f : Fl) (N B C : Env → Prop) (T : R → Env → Prop) (E : Exc → Env → Prop) : Prop := match f with
  | .nx e => N e
  | .bk e => B e
  | .ct e => C e
  | .rt r e => T r e
  | .rs x e => E x e
  | .stuck => False
def After (Z : Zc) (om : Om) (H : Hp) (K : L2.St → Hp → Prop) (e : Env) : Prop := ∀ om' σ' H', Keep om H om' H' → Rel Z om' σ' H' e → K σ' H'
def MuOk (Z : Zc) (om : Om) (H : Hp) (e : Env) : Prop := ∀ o, e[0]? = some (.mu o) → ∃ v, Z.v0 = some v ∧ Own Z.g om H (.slot 0) o v
def Back (Z : Zc) (K : VK) (r : R) (e : Env) : Prop := ∀ v om' H', Keep Z.om0 Z.H0 om' H' → (∀ a l, om' a = some l → ∃ o, H' a = some o) → ROk Z.g om' H' r v → MuOk Z om' H' e → K v H'
def Up (Z : Zc) (om : Om) (H : Hp) (W : WX) (x : Exc) (e : Env) : Prop := ∀ c d om' σ' H', Keep om H om' H' → Rel Z om' σ' H' e → ExOk Z.g om' H' x c d → W c d σ' H'
def tS (Z : Zc) (W : WX) (m : Env → Fl) : TS := fun D σ H => ∃ om env, Rel Z om σ H env ∧ FLands (m env) (After Z om H D.nx) (After Z om H D.bk) (After Z om H D.ct) (Back Z D.rt) (Up Z om H W)
/-- what statements need besides -/
structure Ks (X : Cx) (Z : Zc) (W : WX) : Prop extends Kx X Z W where
  tk : Takes X W
  pass : PassesOwn (model X.prog X.w) X.A X.env X.xe

section
variable {X : Cx} {Z : Zc} {W : WX} {e a b c o : Expr} {es : List Expr} {pos p p2 apos : Pos} {ma mb : Env → Res P} {mo : Env → Res R} {mr : Env → Res (List P)} {om om' : Om} {env : Env} {σ : L2.St} {H H' : Hp}
theorem After.weak {K : L2.St → Hp → Prop} (k : Keep om H om' H') {e : Env} (h : After Z om H K e) : After Z om' H' K e := fun a b c d => h a b c (k.trans d)
theorem Up.weak (k : Keep om H om' H') {x : Exc} {e : Env} (h : Up Z om H W x e) : Up Z om' H' W x e := fun a b c d f g => h a b c d f (k.trans g)
theorem FLands.weak {K1 K2 K3 : L2.St → Hp → Prop} {T : R → Env → Prop} (k : Keep om H om' H') {f : Fl} (h : FLands f (After Z om H K1) (After Z om H K2) (After Z om H K3) T (Up Z om H W)) : FLands f (After Z om' H' K1) (After Z om' H' K2) (After Z om' H' K3) T (Up Z om' H' W) := by
  cases f with
  | nx e => exact After.weak k h
  | bk e => exact After.weak k h
  | ct e => exact After.weak k h
  | rt r e => exact h
  | rs x e => exact Up.weak k h
  | stuck => exact h
/-- the statement's own end, from a known state -/
theorem After.here {K : L2.St → Hp → Prop} {e : Env} (h : After Z om H K e) (k : Keep om H om' H') (r : Rel Z om' σ H' e) : K σ H' := h om' σ H' k r

/-! blocks -/
def sNil : Env → Fl := fun env => .nx env
def sSeq (a b : Env → Fl) : Env → Fl := fun env => match a env with
  | .nx e => b e
  | f => f
variable {st : Stmt} {rest : List Stmt} {sa sb : Env → Fl}
theorem ss_nil : PSs X [] (tS Z W sNil) := pss_nil.pimp fun D σ H ⟨om, env, rl, q⟩ => q om σ H (Keep.refl _ _) rl
theorem ss_one (h : PS X st (tS Z W sa)) : PSs X [st] (tS Z W sa) := pss_one h
theorem ss_cons (h1 : PS X st (tS Z W sa)) (h2 : PSs X rest (tS Z W sb)) : PSs X (st :: rest) (tS Z W (sSeq sa sb)) := (pss_cons h1 h2).pimp fun D σ H ⟨om, env, rl, q⟩ => by
  refine ⟨om, env, rl, ?_⟩
  unfold sSeq at q
  cases ha : sa env with
  | nx e =>
    rw [ha] at q
    exact fun om' σ' H' k r => ⟨om', e, r, FLands.weak k q⟩
  | bk e => rw [ha] at q; exact q
  | ct e => rw [ha] at q; exact q
  | rt r e => rw [ha] at q; exact q
  | rs x e => rw [ha] at q; exact q
  | stuck => rw [ha] at q; exact q
theorem s_pass : PS X (.Pass pos) (tS Z W sNil) := ps_pass.pimp fun D σ H ⟨om, env, rl, q⟩ => q om σ H (Keep.refl _ _) rl
def sBrk : Env → Fl := fun env => .bk env
def sCnt : Env → Fl := fun env => .ct env

/-! names stored -/
theorem Rel.set (rl : Rel Z om σ H env) {i : Nat} {s : S} {v : V} (hs : SlotOk Z.g om H (some (some v)) i s) (h1 : ∀ o, env[i]? ≠ some (.mu o)) (h2 : ∀ o, s ≠ .mu o) (hi : env[i]? ≠ none) : Rel Z om (σ.set i (some v)) H (env.set i s) := by
  have hl : i < env.length := by
    cases h : env[i]? with
    | none => exact absurd h hi
    | some _ => exact (List.getElem?_eq_some_iff.mp h).1
  refine ⟨rl.tr, rl.nt, rl.kp, by simp [rl.ln], fun j s' h => ?_, fun o h => ?_⟩
  · by_cases hj : j = i
    · subst hj
      rw [List.getElem?_set_self hl] at h
      cases h
      rw [List.getElem?_set_self (by rw [rl.ln]; exact hl)]
      exact hs
    · rw [List.getElem?_set_ne (fun z => hj z.symm)] at h ⊢
      exact rl.sl j s' h
  · by_cases hj : 0 = i
    · subst hj
      rw [List.getElem?_set_self hl] at h
      cases h
      exact absurd rfl (h2 o)
    · rw [List.getElem?_set_ne (fun z => hj z.symm)] at h ⊢
      exact rl.mu o h
/-- a slot that may be stored to -/
def free? (env : Env) (i : Nat) : Bool := match env[i]? with
  | none => false
  | some (.mu _) => false
  | some _ => true
theorem free_ok {i : Nat} (h : free? env i = true) : (∀ o, env[i]? ≠ some (.mu o)) ∧ env[i]? ≠ none := by
  unfold free? at h
  split at h
  · cases h
  · cases h
  · rename_i s h1 h2
    exact ⟨fun o e => by rw [h2] at e; cases e; exact h1 o rfl, by rw [h2]; exact fun z => by cases z⟩
def setP (env : Env) (i : Nat) (p : P) : Option Env := if free? env i = true then (match p with
  | .fz d => some (env.set i (.fz d))
  | .bor .amb o => some (env.set i (.rd o))
  | .bor _ _ => none) else none
theorem setP_ok {i : Nat} {p : P} {v : V} {e' : Env} (rl : Rel Z om σ H env) (po : POk Z.g om H p v) (h : setP env i p = some e') : Rel Z om (σ.set i (some v)) H e' := by
  unfold setP at h
  split at h
  · rename_i hf
    obtain ⟨h1, h2⟩ := free_ok hf
    split at h
    · cases h
      exact rl.set (s := .fz _) ⟨v, rfl, po⟩ h1 (fun o z => by cases z) h2
    · cases h
      obtain ⟨_, l, hl, ow⟩ := po
      exact rl.set (s := .rd _) ⟨v, l, rfl, hl, ow⟩ h1 (fun o z => by cases z) h2
    · cases h
  · cases h
def sSet (i : Nat) (ma : Env → Res P) : Env → Fl := fun env => match ma env with
  | .ok p => match setP env i p with
    | some e => .nx e
    | none => .stuck
  | .rs x => .rs x env
  | .stuck => .stuck
theorem set_imp {i : Nat} : ∀ D σ H, tS Z W (sSet i ma) D σ H → tAsg (tP Z W ma) (gName i) D σ H := fun D σ H ⟨om, env, rl, q⟩ => by
  unfold sSet at q
  refine ⟨om, env, rl, ?_⟩
  cases ha : ma env with
  | stuck => rw [ha] at q; exact q
  | rs x => rw [ha] at q; exact fun c d H' e ex => q c d om σ H' (keep_grow rl.tr e) (rl.grow e) ex
  | ok p =>
    rw [ha] at q
    intro v H' e po
    simp only at q
    cases hp : setP env i p with
    | none => rw [hp] at q; exact q.elim
    | some e' =>
      rw [hp] at q
      exact q om _ H' (keep_grow rl.tr e) (setP_ok (rl.grow e) po hp)
theorem s_set {i : Nat} {x : Str} {p3 : Pos} (kx : Kx X Z W) (hi : X.N[i]? = some x) (hx : Loc X.env.scope x) (he : PE X e (tP Z W ma)) (hs : swapsWith e (some (.Name x p3)) pos.line X.env = pure false := by rfl) (hf : X.fn x = true ∨ X.env.scope.names.lookup x = some .local := by first | exact .inl rfl | exact .inr rfl | assumption) :
    PS X (.Assign [.Name x p3] e pos) (tS Z W (sSet i ma)) := (ps_set kx.nd hi hx he hs hf).pimp set_imp
/-- what was temporarily owned is given to a slot -/
theorem own_to (i : Nat) {o : O} {v : V} {H0 : Hp} (rl : Rel Z om σ H0 env) (n : New om H0 om' H) (ow : Own Z.g om' H .tmp o v) :
    ∃ om2, Own Z.g om2 H (.slot i) o v ∧ Keep om H0 om2 H ∧ (∀ a l, om2 a = some l → ∃ o, H a = some o) ∧ (∀ a l, om2 a = some l → l.root ≠ .tmp) ∧ (∀ a l, om a = some l → om2 a = some l) ∧ hide om2 H = hide om' H := by
  have fx : ∀ l : Lab, l.root ≠ .tmp → (l.re fun l => match l with | .tmp => Lab.slot i | l => l) = l := fun l hl => Lab.re_eq _ (by
    cases h : l.root with
    | tmp => exact absurd h hl
    | _ => rfl)
  have hn : ∀ a, om' a = none ↔ (om' a).map (fun l => l.re fun l => match l with | .tmp => Lab.slot i | l => l) = none := fun a => by cases om' a <;> simp
  have hh := hide_none (H := H) hn
  have fr : ∀ l : Lab, ((l.re fun l => match l with | .tmp => Lab.slot i | l => l)).root ≠ .tmp := fun l => by
    induction l with
    | sub l s ih => exact ih
    | amb => exact fun z => by cases z
    | slot j => exact fun z => by cases z
    | tmp => exact fun z => by cases z
  have old : ∀ a l, om a = some l → (om' a).map (fun l => l.re fun l => match l with | .tmp => Lab.slot i | l => l) = some l := fun a l h => by
    rw [n.old a l h]
    simp only [Option.map_some, Option.some.injEq]
    exact fx l (rl.nt a l h)
  refine ⟨fun a => (om' a).map fun l => l.re fun l => match l with | .tmp => Lab.slot i | l => l, ?_, ?_, fun a l h => ?_, fun a l h => ?_, old, hh⟩
  · exact ow.relab (f := fun l => match l with | .tmp => Lab.slot i | l => l) hh fun a l h _ => by show (om' a).map _ = _; rw [h]; rfl
  · refine ⟨?_, fun a l h hr => ⟨old a l h, ?_⟩, fun a l h hr => ?_⟩
    · rw [hh]; exact n.hide rl.tr
    · exact ((n.keep rl.tr).am a l h hr).2
    · cases h' : om' a with
      | none => have h : (om' a).map _ = some l := h; rw [h'] at h; cases h
      | some l' =>
        have h : (om' a).map (fun l => l.re fun l => match l with | .tmp => Lab.slot i | l => l) = some l := h
        rw [h'] at h
        simp only [Option.map_some, Option.some.injEq] at h
        rcases n.new a l' h' with z | ⟨_, z, _⟩
        · rw [fx l' (rl.nt a l' z)] at h
          subst h
          exact z
        · exfalso
          have w : ∀ l : Lab, l.root = .tmp → ((l.re fun l => match l with | .tmp => Lab.slot i | l => l)).root = .slot i := fun l => by
            induction l with
            | sub l s ih => exact ih
            | amb => intro h; cases h
            | slot j => intro h; cases h
            | tmp => intro h; rfl
          have := w l' z
          rw [h, hr] at this
          cases this
  · cases h' : om' a with
    | none => have h : (om' a).map _ = some l := h; rw [h'] at h; cases h
    | some l' =>
      rcases n.new a l' h' with z | ⟨_, _, z⟩
      · obtain ⟨u, w⟩ := rl.tr a l' z
        exact ⟨u, n.ex a u w⟩
      · exact z
  · cases h' : om' a with
    | none => have h : (om' a).map _ = some l := h; rw [h'] at h; cases h
    | some l' =>
      have h : (om' a).map (fun l => l.re fun l => match l with | .tmp => Lab.slot i | l => l) = some l := h
      rw [h'] at h
      simp only [Option.map_some, Option.some.injEq] at h
      rw [← h]
      exact fr l'
/-- the frame's relation under a labelling that keeps the old labels -/
theorem Rel.relab {H0 : Hp} {om2 : Om} (rl : Rel Z om σ H0 env) (k : Keep om H0 om2 H) (tr : ∀ a l, om2 a = some l → ∃ o, H a = some o) (nt : ∀ a l, om2 a = some l → l.root ≠ .tmp) (old : ∀ a l, om a = some l → om2 a = some l) (ex : Same H0 H) : Rel Z om2 σ H env :=
  ⟨tr, nt, rl.kp.trans k, rl.ln, fun i s h => (rl.sl i s h).mono k.st fun r _ a l h _ => by
    obtain ⟨u, w⟩ := rl.tr a l h
    exact ⟨old a l h, by rw [w]; exact ex a u w⟩, rl.mu⟩
def sOwn (i : Nat) (mo : Env → Res R) : Env → Fl := fun env => match mo env with
  | .ok (.tmp o) => if free? env i = true then .nx (env.set i (.ow o)) else .stuck
  | .rs x => .rs x env
  | _ => .stuck
theorem own_imp {i : Nat} : ∀ D σ H, tS Z W (sOwn i mo) D σ H → tAsg (tO Z W mo) (gName i) D σ H := fun D σ H ⟨om, env, rl, q⟩ => by
  unfold sOwn at q
  refine ⟨om, env, rl, ?_⟩
  cases ha : mo env with
  | stuck => rw [ha] at q; exact q
  | rs x => rw [ha] at q; exact fun c d H' e ex => q c d om σ H' (keep_grow rl.tr e) (rl.grow e) ex
  | ok r =>
    rw [ha] at q
    intro v om' H' n ro
    cases r with
    | fz d => exact q.elim
    | bor l o => exact q.elim
    | tmp o =>
      simp only at q
      split at q
      · rename_i hf
        obtain ⟨f1, f2⟩ := free_ok hf
        obtain ⟨om2, o1, o2, o3, o4, o5, o6⟩ := own_to i rl n ro
        exact q om2 _ H' o2 ((rl.relab o2 o3 o4 o5 n.ex).set (s := .ow o) ⟨v, rfl, o1⟩ f1 (fun o z => by cases z) f2)
      · exact q.elim

theorem s_own {i : Nat} {x : Str} {p3 : Pos} (kx : Kx X Z W) (hi : X.N[i]? = some x) (hx : Loc X.env.scope x) (he : PE X e (tO Z W mo)) (hs : swapsWith e (some (.Name x p3)) pos.line X.env = pure false := by rfl) (hf : X.fn x = true ∨ X.env.scope.names.lookup x = some .local := by first | exact .inl rfl | exact .inr rfl | assumption) :
    PS X (.Assign [.Name x p3] e pos) (tS Z W (sOwn i mo)) := (ps_set kx.nd hi hx he hs hf).pimp own_imp
/-! targets -/
def tG (Z : Zc) (g : D → Env → Option Env) : TG := fun v σ H Q => ∃ om env d, Rel Z om σ H env ∧ Hd Z.g (hide om H) d v ∧ ∃ e', g d env = some e' ∧ ∀ σ', Rel Z om σ' H e' → Q σ' H
def tGs (Z : Zc) (g : List D → Env → Option Env) : TGs := fun vs σ H Q => ∃ om env ds, Rel Z om σ H env ∧ Hds Z.g (hide om H) ds vs ∧ ∃ e', g ds env = some e' ∧ ∀ σ', Rel Z om σ' H e' → Q σ' H
theorem _root_.L2.PG.pimp {X : Cx} {e : Expr} {t t' : TG} (h : PG X e t) (i : ∀ v σ H Q, t' v σ H Q → t v σ H Q) : PG X e t' := ⟨fun pins s σ H v u Q I r q => h.run pins s σ H v u Q I r (i v σ H Q q)⟩
theorem _root_.L2.PGs.pimp {X : Cx} {e : List Expr} {t t' : TGs} (h : PGs X e t) (i : ∀ v σ H Q, t' v σ H Q → t v σ H Q) : PGs X e t' := ⟨fun pins s σ H v u Q I r q => h.run pins s σ H v u Q I r (i v σ H Q q)⟩
def gN (i : Nat) : D → Env → Option Env := fun d env => setP env i (.fz d)
def gsNil : List D → Env → Option Env := fun ds env => match ds with
  | [] => some env
  | _ => none
def gsCons (g : D → Env → Option Env) (h : List D → Env → Option Env) : List D → Env → Option Env := fun ds env => match ds with
  | d :: r => match g d env with
    | some e => h r e
    | none => none
  | [] => none
def gT (h : List D → Env → Option Env) (n : Nat) : D → Env → Option Env := fun d env => match d with
  | .tup ds => if ds.length = n then h ds env else none
  | _ => none
theorem g_name {i : Nat} {x : Str} (nd : X.N.Nodup) (hi : X.N[i]? = some x) (hx : Loc X.env.scope x) (hf : X.fn x = true ∨ X.env.scope.names.lookup x = some .local := by first | exact .inl rfl | exact .inr rfl | assumption) : PG X (.Name x pos) (tG Z (gN i)) :=
  (pg_name nd hi hx hf).pimp fun v σ H Q ⟨om, env, d, rl, hd, e', he, q⟩ => q _ (setP_ok (p := .fz d) rl hd he)
theorem gs_nil : PGs X [] (tGs Z gsNil) := pgs_nil.pimp fun v σ H Q ⟨om, env, ds, rl, hd, e', he, q⟩ => by
  unfold gsNil at he
  split at he
  · cases he
    unfold Hds at hd
    exact ⟨hd, q σ rl⟩
  · cases he
variable {tg : Expr} {tgs : List Expr} {g : D → Env → Option Env} {gs : List D → Env → Option Env}
theorem gs_cons (h1 : PG X tg (tG Z g)) (h2 : PGs X tgs (tGs Z gs)) (hs : (assignEach (tg :: tgs) X.env).map (·.2) = assign tg X.env :: (assignEach tgs X.env).map (·.2) := by rfl) : PGs X (tg :: tgs) (tGs Z (gsCons g gs)) :=
  (pgs_cons h1 h2 hs).pimp fun v σ H Q ⟨om, env, ds, rl, hd, e', he, q⟩ => by
    unfold gsCons at he
    split at he
    · rename_i d r
      unfold Hds at hd
      obtain ⟨v, vs, rfl, d1, d2⟩ := hd
      cases hg : g d env with
      | none => rw [hg] at he; cases he
      | some e1 =>
        rw [hg] at he
        exact ⟨v, vs, rfl, om, env, d, rl, d1, e1, hg, fun σ' r1 => ⟨om, e1, r, r1, d2, e', he, q⟩⟩
    · cases he
theorem g_tup {j n : Nat} (kx : Kx X Z W) (h : PGs X tgs (tGs Z gs)) (hn : (assignEach tgs X.env).length = n := by rfl) (hst : (assignEach tgs X.env).findIdx? (·.1) = none := by rfl) : PG X (.Tuple tgs j pos) (tG Z (gT gs n)) :=
  (pg_tup kx.calm h hn hst).pimp fun v σ H Q ⟨om, env, d, rl, hd, e', he, q⟩ => by
    unfold gT at he
    split at he
    · rename_i ds
      split at he
      · rename_i hl
        simp only [Hd] at hd
        obtain ⟨a, xs, h1, h2, h3⟩ := hd
        exact ⟨a, xs, h1, SqT.of (hide_same _ _ h2), by rw [← h3.len]; exact hl, om, env, ds, rl, h3, e', he, q⟩
      · cases he
    · cases he
/-- (a, b, ..) = e -/
def sUnp (g : D → Env → Option Env) (ma : Env → Res P) : Env → Fl := fun env => match ma env with
  | .ok (.fz d) => match g d env with
    | some e => .nx e
    | none => .stuck
  | .rs x => .rs x env
  | _ => .stuck
theorem s_unp (he : PE X e (tP Z W ma)) (hg : PG X tg (tG Z g)) (hs : swapsWithSole [tg] e pos.line X.env = pure false := by rfl) (hw : swappedStores [tg] e X.env = pure none := by rfl)
    (h1 : (assignEach [tg] X.env).map (·.2) = [assign tg X.env] := by rfl) : PS X (.Assign [tg] e pos) (tS Z W (sUnp g ma)) := (ps_asg he hg hs hw h1).pimp fun D σ H ⟨om, env, rl, q⟩ => by
  unfold sUnp at q
  refine ⟨om, env, rl, ?_⟩
  cases ha : ma env with
  | stuck => rw [ha] at q; exact q
  | rs x => rw [ha] at q; exact fun c d H' e ex => q c d om σ H' (keep_grow rl.tr e) (rl.grow e) ex
  | ok p =>
    rw [ha] at q
    intro v H' e po
    cases p with
    | bor l o => exact q.elim
    | fz d =>
      simp only at q
      cases hg : g d env with
      | none => rw [hg] at q; exact q.elim
      | some e' =>
        rw [hg] at q
        exact ⟨om, env, d, rl.grow e, po, e', hg, fun σ' r => q om σ' H' (keep_grow rl.tr e) r⟩

/-! expression statements, return, raise, if -/
def sExp (mo : Env → Res R) : Env → Fl := fun env => match mo env with
  | .ok _ => .nx env
  | .rs x => .rs x env
  | .stuck => .stuck
theorem s_exp (he : PE X e (tO Z W mo)) (hs : swapsWith e none pos.line X.env = pure false := by rfl) : PS X (.Expr e pos) (tS Z W (sExp mo)) := (ps_expr he hs).pimp fun D σ H ⟨om, env, rl, q⟩ => by
  unfold sExp at q
  refine ⟨om, env, rl, ?_⟩
  cases ha : mo env with
  | stuck => rw [ha] at q; exact q
  | rs x => rw [ha] at q; exact fun c d H' e ex => q c d om σ H' (keep_grow rl.tr e) (rl.grow e) ex
  | ok r => rw [ha] at q; exact fun v om' H' n ro => q om σ H' (keep_grow rl.tr n.ex) (rl.grow n.ex)
theorem mu_of {H0 : Hp} (rl : Rel Z om σ H0 env) (n : New om H0 om' H) : MuOk Z om' H env := fun o h => by
  obtain ⟨v, h1, h2⟩ := rl.sl 0 _ h
  have h3 := rl.mu o h
  rw [h3] at h1
  refine ⟨v, by simpa using h1, h2.mono (n.hide rl.tr) (n.stays rl.tr _) rfl⟩
def sRet (mo : Env → Res R) : Env → Fl := fun env => match mo env with
  | .ok r => .rt r env
  | .rs x => .rs x env
  | .stuck => .stuck
theorem s_ret (he : PE X e (tO Z W mo)) : PS X (.Return (some e) pos) (tS Z W (sRet mo)) := (ps_ret he).pimp fun D σ H ⟨om, env, rl, q⟩ => by
  unfold sRet at q
  refine ⟨om, env, rl, ?_⟩
  cases ha : mo env with
  | stuck => rw [ha] at q; exact q
  | rs x => rw [ha] at q; exact fun c d H' e ex => q c d om σ H' (keep_grow rl.tr e) (rl.grow e) ex
  | ok r =>
    rw [ha] at q
    refine fun v om' H' n ro => q v om' H' (rl.kp.trans (n.keep rl.tr)) (fun a l h => ?_) ro (mu_of rl n)
    rcases n.new a l h with z | ⟨_, _, z⟩
    · obtain ⟨u, w⟩ := rl.tr a l z
      exact ⟨u, n.ex a u w⟩
    · exact z
def sRetN : Env → Fl := fun env => .rt (.fz .non) env
theorem s_retN : PS X (.Return none pos) (tS Z W sRetN) := ps_retN.pimp fun D σ H ⟨om, env, rl, q⟩ =>
  q .non om H rl.kp rl.tr (by unfold ROk Hd; rfl) (mu_of rl (New.same (Same.refl _)))
variable {tc : Env → Res Bool} {body orelse : List Stmt}
def sIf (tc : Env → Res Bool) (sa sb : Env → Fl) : Env → Fl := fun env => match tc env with
  | .ok x => if x = true then sa env else sb env
  | .rs x => .rs x env
  | .stuck => .stuck
theorem s_if (hc : PT X c (tB Z W tc)) (ha : PSs X body (tS Z W sa)) (hb : PSs X orelse (tS Z W sb)) : PS X (.If c body orelse pos) (tS Z W (sIf tc sa sb)) := (ps_if hc ha hb).pimp fun D σ H ⟨om, env, rl, q⟩ => by
  unfold sIf at q
  refine ⟨om, env, rl, ?_⟩
  cases hx : tc env with
  | stuck => rw [hx] at q; exact q
  | rs x => rw [hx] at q; exact fun c d H' e ex => q c d om σ H' (keep_grow rl.tr e) (rl.grow e) ex
  | ok x =>
    rw [hx] at q
    intro H' e
    cases x with
    | true => rw [if_pos rfl]; exact ⟨om, env, rl.grow e, FLands.weak (keep_grow rl.tr e) (by simpa using q)⟩
    | false => rw [if_neg Bool.false_ne_true]; exact ⟨om, env, rl.grow e, FLands.weak (keep_grow rl.tr e) (by simpa using q)⟩
def sRaise (x : Str) : Env → Fl := fun env => .rs ⟨x, none⟩ env
/-- an exception's class, as the top has made it -/
structure Xc (g : Ga) (x : Str) (C : Addr) : Prop where
  gm : g.mg x = some (.ref C)
  ex : PySem.W.excIn g.K C [.type "ValueError", .type "Exception", .type "BaseException", .type "object"] "ValueError.__new__" = true
  kp : PySem.W.keepIn g.K (.ref C) = true
  b : PySem.W.subIn g.K (.ref C) (.type "BaseException") = some true
  t : PySem.W.typeIn g.K (.ref C) = some (.type "type")
theorem s_raise {x m : Str} {j : Nat} {C : Addr} {p2 p3 : Pos} (ks : Ks X Z W) (xc : Xc Z.g x C) (hg : Gl X x := by rfl) (hdb : (x == ("__debug__" : Str)) = false := by decide) :
    PS X (.Raise (some (.Call (.Name x p) [.Constant (.str m) j p2] [] p3)) none pos) (tS Z W (sRaise x)) := by
  have h1 := xc.ex
  have h2 := xc.kp
  have h3 := xc.b
  have h4 := xc.t
  have h5 := xc.gm
  rw [ks.gK] at h1 h2 h3 h4
  rw [ks.gm] at h5
  refine (ps_raise ks.calm ks.tk (pmk_own PySem.F.excBase_ValueError h1 h5 h2 (raises_own h3 h4) hg hdb)).pimp fun D σ H ⟨om, env, rl, q⟩ => ?_
  exact q (.ref C) none om σ H (Keep.refl _ _) rl ⟨C, xc.gm, rfl, rfl⟩

/-! an owned list changed -/
theorem own_at {i : Nat} {ds : List D} {v : V} (rl : Rel Z om σ H env) (h : env[i]? = some (.ow (.lst ds))) : ∃ q xs, σ[i]? = some (some (.ref q)) ∧ om q = some (.slot i) ∧ H q = some (.lst xs) ∧ Hds Z.g (hide om H) ds xs := by
  obtain ⟨v, h1, q, xs, h2, h3, h4, h5⟩ := rl.sl i _ h
  subst h2
  exact ⟨q, xs, h1, h3, h4, h5⟩
theorem hide_mut {q : Addr} {l : Lab} {u : HO} (h : om q = some l) : hide om (upd H q u) = hide om H := by
  funext a
  by_cases z : a = q
  · subst z
    unfold hide
    rw [h]
  · unfold hide
    rw [upd_ne z]
theorem keep_mut {q : Addr} {l : Lab} {u : HO} (h : om q = some l) (hl : l.root ≠ .amb) : Keep om H om (upd H q u) :=
  ⟨by rw [hide_mut h]; exact Same.refl _, fun a l' h' hr => ⟨h', by rw [upd_ne (fun z => by subst z; rw [h] at h'; cases h'; exact hl hr)]⟩, fun _ _ h _ => h⟩
theorem Rel.mut (rl : Rel Z om σ H env) {i : Nat} {ds ds' : List D} {q : Addr} {xs' : List V} (h : env[i]? = some (.ow (.lst ds))) (hs : σ[i]? = some (some (.ref q))) (hq : om q = some (.slot i)) (hd : Hds Z.g (hide om H) ds' xs') :
    Rel Z om σ (upd H q (.lst xs')) (env.set i (.ow (.lst ds'))) ∧ Keep om H om (upd H q (.lst xs')) := by
  have hl : i < env.length := (List.getElem?_eq_some_iff.mp h).1
  have k : Keep om H om (upd H q (.lst xs')) := keep_mut hq (fun z => by cases z)
  refine ⟨⟨fun a l h => ?_, rl.nt, rl.kp.trans k, by simp [rl.ln], fun j s hj => ?_, fun o ho => ?_⟩, k⟩
  · by_cases z : a = q
    · subst z; exact ⟨_, upd_same⟩
    · rw [upd_ne z]; exact rl.tr a l h
  · by_cases z : j = i
    · subst z
      rw [List.getElem?_set_self hl] at hj
      cases hj
      exact ⟨_, hs, q, xs', rfl, hq, upd_same, by rw [hide_mut hq]; exact hd⟩
    · rw [List.getElem?_set_ne (fun w => z w.symm)] at hj
      refine (rl.sl j s hj).mono k.st fun r hr a l h' hl' => ⟨h', ?_⟩
      rw [upd_ne]
      intro w
      subst w
      rw [hq] at h'
      cases h'
      rcases hr with rfl | rfl
      · cases hl'
      · cases hl'; exact z rfl
  · by_cases z : 0 = i
    · subst z
      rw [List.getElem?_set_self hl] at ho
      cases ho
    · rw [List.getElem?_set_ne (fun w => z w.symm)] at ho
      exact rl.mu o ho
/-- name.append(e) -/
def sApp (i : Nat) (ma : Env → Res P) : Env → Fl := fun env => match env[i]? with
  | some (.ow (.lst ds)) => match ma env with
    | .ok (.fz d) => if ds.length < 16777216 then .nx (env.set i (.ow (.lst (ds ++ [d])))) else .stuck
    | .rs x => .rs x env
    | _ => .stuck
  | _ => .stuck
theorem s_app {i : Nat} {x : Str} {p3 : Pos} (hv : PE X (.Name x p3) (tVar i)) (he : PE X e (tP Z W ma))
    (hbase : attributeBase (.Name x p3) "append" X.env (eval (.Name x p3) X.env) = eval (.Name x p3) X.env := by rfl)
    (hfew : ((backTo p2 (starEach (e :: []) X.env)).all (fun x => !x.1) && (backToKw p2 (keywordEach [] X.env)).all (fun x => x.1.isSome)
      && decide ((e :: ([] : List Expr)).length + ([] : List Keyword).length + (if ([] : List Keyword).isEmpty then 0 else 1) < 30)) = true := by rfl)
    (hline : (apos.endLine == p2.line) = true := by rfl) (hs : starEach (e :: []) X.env = (false, eval e X.env) :: starEach [] X.env := by rfl) (hplain : (backTo p2 (starEach [] X.env)).any (·.1) = false := by rfl)
    (hsw : swapsWith (.Call (.Attribute (.Name x p3) "append" apos) (e :: []) [] p2) none pos.line X.env = pure false := by rfl) :
    PS X (.Expr (.Call (.Attribute (.Name x p3) "append" apos) (e :: []) [] p2) pos) (tS Z W (sApp i ma)) :=
  (ps_expr (pe_bm PySem.F.plainAttrs_list PySem.F.slot_list_append PySem.F.type_list_append mt_append hv (pa_cons he pa_nil hs) hbase hfew hline hs hplain) hsw).pimp fun D σ H ⟨om, env, rl, q⟩ => by
    unfold sApp at q
    split at q
    · rename_i ds hi
      obtain ⟨a, xs, h1, h2, h3, h4⟩ := own_at (v := .non) rl hi
      refine ⟨.ref a, h1, .inl ⟨rfl, xs, SqL.of h3⟩, om, env, rl, ?_⟩
      cases ha : ma env with
      | stuck => rw [ha] at q; exact q
      | rs x => rw [ha] at q; exact fun c d H' e ex => q c d om σ H' (keep_grow rl.tr e) (rl.grow e) ex
      | ok p =>
        rw [ha] at q
        intro v H' e po
        cases p with
        | bor l o => exact q.elim
        | fz d =>
          simp only at q
          split at q
          · rename_i hl
            obtain ⟨r1, r2⟩ := (rl.grow e).mut hi h1 h2 ((h4.mono (hide_grow e)).app (.one po))
            exact ⟨a, xs, v, rfl, rfl, e _ _ h3, by rw [← h4.len, sizeLine_eq]; exact hl, q om σ _ ((keep_grow rl.tr e).trans r2) r1⟩
          · exact q.elim
    · exact q.elim
/-- y = name.pop(e) -/
def sPopAt (j i : Nat) (ma : Env → Res P) : Env → Fl := fun env => match env[i]? with
  | some (.ow (.lst ds)) => match ma env with
    | .ok (.fz (.int k)) => if -9223372036854775808 ≤ k ∧ k < 9223372036854775808 then match seqIndex? k ds.length with
      | some n => match ds[n]? with
        | some d => match setP (env.set i (.ow (.lst (ds.eraseIdx n)))) j (.fz d) with
          | some e' => .nx e'
          | none => .stuck
        | none => .stuck
      | none => .stuck
      else .stuck
    | .rs x => .rs x env
    | _ => .stuck
  | _ => .stuck
theorem s_popAt {i j : Nat} {x y : Str} {p3 p4 : Pos} (kx : Kx X Z W) (hj : X.N[j]? = some y) (hy : Loc X.env.scope y) (hv : PE X (.Name x p3) (tVar i)) (he : PE X e (tP Z W ma))
    (hbase : attributeBase (.Name x p3) "pop" X.env (eval (.Name x p3) X.env) = eval (.Name x p3) X.env := by rfl)
    (hfew : ((backTo p2 (starEach (e :: []) X.env)).all (fun x => !x.1) && (backToKw p2 (keywordEach [] X.env)).all (fun x => x.1.isSome)
      && decide ((e :: ([] : List Expr)).length + ([] : List Keyword).length + (if ([] : List Keyword).isEmpty then 0 else 1) < 30)) = true := by rfl)
    (hline : (apos.endLine == p2.line) = true := by rfl) (hs : starEach (e :: []) X.env = (false, eval e X.env) :: starEach [] X.env := by rfl) (hplain : (backTo p2 (starEach [] X.env)).any (·.1) = false := by rfl)
    (hsw : swapsWith (.Call (.Attribute (.Name x p3) "pop" apos) (e :: []) [] p2) (some (.Name y p4)) pos.line X.env = pure false := by rfl) (hf : X.fn y = true ∨ X.env.scope.names.lookup y = some .local := by first | exact .inl rfl | exact .inr rfl | assumption) :
    PS X (.Assign [.Name y p4] (.Call (.Attribute (.Name x p3) "pop" apos) (e :: []) [] p2) pos) (tS Z W (sPopAt j i ma)) :=
  (ps_set kx.nd hj hy (pe_bm PySem.F.plainAttrs_list PySem.F.slot_list_pop PySem.F.type_list_pop mt_popAt hv (pa_cons he pa_nil hs) hbase hfew hline hs hplain) hsw hf).pimp fun D σ H ⟨om, env, rl, q⟩ => by
    unfold sPopAt at q
    split at q
    · rename_i ds hi
      obtain ⟨a, xs, h1, h2, h3, h4⟩ := own_at (v := .non) rl hi
      refine ⟨.ref a, h1, .inl ⟨rfl, xs, SqL.of h3⟩, om, env, rl, ?_⟩
      cases ha : ma env with
      | stuck => rw [ha] at q; exact q
      | rs x => rw [ha] at q; exact fun c d H' e ex => q c d om σ H' (keep_grow rl.tr e) (rl.grow e) ex
      | ok p =>
        rw [ha] at q
        intro v H' e po
        cases p with
        | bor l o => exact q.elim
        | fz d =>
          cases d <;> try exact q.elim
          rename_i k
          simp only at q
          split at q
          · rename_i hk
            split at q
            · rename_i n hn
              split at q
              · rename_i d hd
                split at q
                · rename_i e' he'
                  have hv : v = .int k := by simpa [POk, Hd] using po
                  subst hv
                  obtain ⟨u, hu1, hu2⟩ := h4.get hd
                  obtain ⟨r1, r2⟩ := (rl.grow e).mut hi h1 h2 ((h4.mono (hide_grow e)).erase n)
                  refine ⟨a, xs, k, n, u, rfl, rfl, e _ _ h3, hk.1, hk.2, by rw [← h4.len]; exact hn, hu1, ?_⟩
                  refine q om _ _ ((keep_grow rl.tr e).trans r2) (setP_ok r1 ?_ he')
                  show Hd _ (hide om (upd H' a _)) _ _
                  rw [hide_mut h2]
                  exact hu2.mono (hide_grow e)
                · exact q.elim
              · exact q.elim
            · exact q.elim
          · exact q.elim
    · exact q.elim
/-- name[k] = e -/
def setD (ds : List D) (k : Int) (d : D) : Option (List D) := (ixN ds.length k).map fun j => ds.set j d
def sIt (i : Nat) (mk ma : Env → Res P) : Env → Fl := fun env => match env[i]? with
  | some (.ow (.lst ds)) => match (ma env).bind fun x => (mk env).bind fun y => .of (match x, y.int? with
    | .fz d, some k => setD ds k d
    | _, _ => none) with
    | .ok ds' => .nx (env.set i (.ow (.lst ds')))
    | .rs x => .rs x env
    | .stuck => .stuck
  | _ => .stuck
theorem s_it {i : Nat} {x : Str} {p3 : Pos} {k : Expr} {mk : Env → Res P} (hv : PE X (.Name x p3) (tVar i)) (hk : PE X k (tP Z W mk)) (he : PE X e (tP Z W ma))
    (hs : swapsWithSole [.Subscript (.Name x p3) k p2] e pos.line X.env = pure false := by rfl) (hw : swappedStores [.Subscript (.Name x p3) k p2] e X.env = pure none := by rfl)
    (h1 : (assignEach [.Subscript (.Name x p3) k p2] X.env).map (·.2) = [assign (.Subscript (.Name x p3) k p2) X.env] := by rfl)
    (ha : ∀ v, assign (.Subscript (.Name x p3) k p2) X.env v = (do
      let ov ← holding [v] (eval (.Name x p3) X.env)
      let iv ← holding [v, ov] (eval k X.env)
      standAt p2
      holding [v, ov, iv] (setItem ov iv v)
      release [v, ov, iv] []) := by intro _; rfl) :
    PS X (.Assign [.Subscript (.Name x p3) k p2] e pos) (tS Z W (sIt i mk ma)) :=
  (ps_asg he (pg_sub hv hk set_list ha) hs hw h1).pimp fun D σ H ⟨om, env, rl, q⟩ => by
    unfold sIt at q
    split at q
    · rename_i ds hi
      obtain ⟨a, xs, h1, h2, h3, h4⟩ := own_at (v := .non) rl hi
      refine ⟨om, env, rl, ?_⟩
      cases hma : ma env with
      | stuck => rw [hma] at q; exact q
      | rs x => rw [hma] at q; exact fun c d H' e ex => q c d om σ H' (keep_grow rl.tr e) (rl.grow e) ex
      | ok z =>
        rw [hma] at q
        simp only [Res.bind] at q
        intro v H' e po
        refine ⟨.ref a, h1, om, env, rl.grow e, ?_⟩
        cases hmk : mk env with
        | stuck => rw [hmk] at q; exact q
        | rs x => rw [hmk] at q; exact fun c d H'' e2 ex => q c d om σ H'' (keep_grow rl.tr (e.trans e2)) (rl.grow (e.trans e2)) ex
        | ok y =>
          rw [hmk] at q
          simp only at q
          intro u H'' e2 pu
          cases z with
          | bor l o => exact q.elim
          | fz d =>
            cases hy : y.int? with
            | none => rw [hy] at q; exact q.elim
            | some k =>
              rw [hy] at q
              simp only at q
              cases hd : setD ds k d with
              | none => rw [hd] at q; exact q.elim
              | some ds' =>
                rw [hd] at q
                unfold setD at hd
                cases hj : ixN ds.length k with
                | none => rw [hj] at hd; cases hd
                | some j =>
                  rw [hj] at hd
                  cases hd
                  have e3 := e.trans e2
                  obtain ⟨r1, r2⟩ := (rl.grow e3).mut hi h1 h2 ((h4.mono (hide_grow e3)).set j (Hd.mono (hide_grow e2) po))
                  exact ⟨a, xs, k, j, rfl, pu.int hy, e3 _ _ h3, by rw [← h4.len]; exact hj, q om σ _ ((keep_grow rl.tr e3).trans r2) r1⟩
    · exact q.elim
/-- name[k] += e (ints) -/
def rGetL : V → V → Hp → VK → Prop := fun o i H Q => ∃ p xs k v, o = .ref p ∧ i = .int k ∧ H p = some (.lst xs) ∧ 0 ≤ k ∧ xs[k.toNat]? = some v ∧ Q v H
theorem get_list : PGet X rGetL := fun pins s σ H o i ov iv Q I ro ri ⟨p, xs, k, v, e1, e2, hp, h0, hx, q⟩ => by
  subst e1 e2
  cases ro
  obtain ⟨t, rfl⟩ := ri
  obtain ⟨its, r, pl, hz⟩ := I.list (SqL.of (K := X.K) hp)
  obtain ⟨w, ew, rw'⟩ := r.get hx
  have hl := (List.getElem?_eq_some_iff.mp ew).1
  have hn := line63
  have hlen := r.length
  exact wpAny_getItem_list pl.isList h0 (by omega) (by simpa using ew) ⟨v, H, I, rw', q⟩
def augAt (ds : List D) (y : P) : Option (Nat × Int) := match y.int? with
  | some k => if 0 ≤ k then match ds[k.toNat]? with
    | some (.int w) => some (k.toNat, w)
    | _ => none
    else none
  | none => none
theorem augAt_ok {ds : List D} {y : P} {n : Nat} {w : Int} (h : augAt ds y = some (n, w)) : ∃ k, y.int? = some k ∧ 0 ≤ k ∧ k.toNat = n ∧ ds[n]? = some (.int w) := by
  unfold augAt at h
  split at h
  · rename_i k hk
    split at h
    · rename_i h0
      split at h
      · rename_i w' hw
        cases h
        exact ⟨k, hk, h0, rfl, hw⟩
      · cases h
    · cases h
  · cases h
def sAugI (f : Int → Int → Int) (i : Nat) (mk ma : Env → Res P) : Env → Fl := fun env => match env[i]? with
  | some (.ow (.lst ds)) => match mk env with
    | .ok y => match augAt ds y with
      | some (n, w) => match ma env with
        | .ok z => match z.int? with
          | some z => .nx (env.set i (.ow (.lst (ds.set n (.int (f w z))))))
          | none => .stuck
        | .rs x => .rs x env
        | .stuck => .stuck
      | none => .stuck
    | .rs x => .rs x env
    | .stuck => .stuck
  | _ => .stuck
theorem s_augI {op : Operator} {f : Int → Int → Int} {i : Nat} {x : Str} {p3 : Pos} {k : Expr} {mk : Env → Res P} (hp : PIp X op (ipI f)) (hv : PE X (.Name x p3) (tVar i)) (hk : PE X k (tP Z W mk)) (he : PE X e (tP Z W ma))
    (ha : ∀ ov iv new, augStore k ov iv new = (do holding [new, ov, iv] (setItem ov iv new); release [new, ov, iv] []; pure .next) := by intros; rfl) :
    PS X (.AugAssign (.Subscript (.Name x p3) k p2) op e pos) (tS Z W (sAugI f i mk ma)) :=
  (ps_augS hv hk get_list he hp set_list ha).pimp fun D σ H ⟨om, env, rl, q⟩ => by
    unfold sAugI at q
    split at q
    · rename_i ds hi
      obtain ⟨a, xs, h1, h2, h3, h4⟩ := own_at (v := .non) rl hi
      refine ⟨.ref a, h1, om, env, rl, ?_⟩
      cases hmk : mk env with
      | stuck => rw [hmk] at q; exact q
      | rs x => rw [hmk] at q; exact fun c d H' e ex => q c d om σ H' (keep_grow rl.tr e) (rl.grow e) ex
      | ok y =>
        rw [hmk] at q
        simp only at q
        intro v H' e po
        split at q
        · rename_i n w hn
          obtain ⟨k, k1, k2, k3, k4⟩ := augAt_ok hn
          obtain ⟨u, u1, u2⟩ := h4.get k4
          have hu : u = .int w := by simpa [Hd] using u2
          subst hu
          refine ⟨a, xs, k, .int w, rfl, po.int k1, e _ _ h3, k2, by rw [k3]; exact u1, om, env, rl.grow e, ?_⟩
          cases hma : ma env with
          | stuck => rw [hma] at q; exact q
          | rs x => rw [hma] at q; exact fun c d H'' e2 ex => q c d om σ H'' (keep_grow rl.tr (e.trans e2)) (rl.grow (e.trans e2)) ex
          | ok z =>
            rw [hma] at q
            simp only at q
            intro z' H'' e2 pz
            split at q
            · rename_i z hz
              have e3 := e.trans e2
              have hj : ixN xs.length k = some n := by
                have := (List.getElem?_eq_some_iff.mp u1).1
                unfold ixN
                rw [if_pos k2, if_pos (by omega), k3]
              obtain ⟨r1, r2⟩ := (rl.grow e3).mut hi h1 h2 ((h4.mono (hide_grow e3)).set (d := .int (f w z)) (v := .int (f w z)) n (by unfold Hd; rfl))
              exact ⟨w, z, rfl, pz.int hz, a, xs, k, n, rfl, po.int k1, e3 _ _ h3, hj, q om σ _ ((keep_grow rl.tr e3).trans r2) r1⟩
            · exact q.elim
        · exact q.elim
    · exact q.elim
/-- name += e (ints) -/
def sAug (f : Int → Int → Int) (i : Nat) (ma : Env → Res P) : Env → Fl := fun env => match env[i]? with
  | some (.fz (.int w)) => match ma env with
    | .ok z => match z.int? with
      | some z => .nx (env.set i (.fz (.int (f w z))))
      | none => .stuck
    | .rs x => .rs x env
    | .stuck => .stuck
  | _ => .stuck
theorem s_aug {op : Operator} {f : Int → Int → Int} {i : Nat} {x : Str} {p3 : Pos} (kx : Kx X Z W) (hi : X.N[i]? = some x) (hx : Loc X.env.scope x) (hp : PIp X op (ipI f)) (he : PE X e (tP Z W ma)) (hf : X.fn x = true ∨ X.env.scope.names.lookup x = some .local := by first | exact .inl rfl | exact .inr rfl | assumption) :
    PS X (.AugAssign (.Name x p3) op e pos) (tS Z W (sAug f i ma)) :=
  (ps_aug kx.nd hi hx he hp hf).pimp fun D σ H ⟨om, env, rl, q⟩ => by
    unfold sAug at q
    split at q
    · rename_i w hi
      obtain ⟨v, h1, h2⟩ := rl.sl i _ hi
      have hv : v = .int w := by simpa [Hd] using h2
      subst hv
      refine ⟨.int w, h1, om, env, rl, ?_⟩
      cases hma : ma env with
      | stuck => rw [hma] at q; exact q
      | rs x => rw [hma] at q; exact fun c d H' e ex => q c d om σ H' (keep_grow rl.tr e) (rl.grow e) ex
      | ok z =>
        rw [hma] at q
        simp only at q
        intro z' H' e pz
        split at q
        · rename_i z hz
          refine ⟨w, z, rfl, pz.int hz, q om _ H' (keep_grow rl.tr e) ((rl.grow e).set (s := .fz (.int (f w z))) ⟨_, rfl, by unfold Hd; rfl⟩ (fun o z => ?_) (fun o z => by cases z) (fun z => ?_))⟩
          · rw [hi] at z; cases z
          · rw [hi] at z; cases z
        · exact q.elim
    · exact q.elim
end
end RC

set_option Elab.async false
set_option linter.all false
set_option maxRecDepth 100000
set_option maxHeartbeats 2000000
/-! R7: loops, comprehensions, whole defs. -/
namespace RC
open PySem PySem.Spec PyProof.Rows L2

def forD (g : D → Env → Option Env) (body : Env → Fl) : List D → Env → Fl
  | [], env => .nx env
  | d :: ds, env => match g d env with
    | none => .stuck
    | some e => match body e with
      | .nx e' => forD g body ds e'
      | .ct e' => forD g body ds e'
      | .bk e' => .nx e'
      | .rt r e' => .rt r e'
      | .rs x e' => .rs x e'
      | .stuck => .stuck
def whD (tc : Env → Res Bool) (body : Env → Fl) : Nat → Env → Fl
  | 0, _ => .stuck
  | n + 1, env => match tc env with
    | .stuck => .stuck
    | .rs x => .rs x env
    | .ok false => .nx env
    | .ok true => match body env with
      | .nx e' => whD tc body n e'
      | .ct e' => whD tc body n e'
      | .bk e' => .nx e'
      | .rt r e' => .rt r e'
      | .rs x e' => .rs x e'
      | .stuck => .stuck

section
variable {X : Cx} {Z : Zc} {W : WX} {e a b c o iter tg : Expr} {es : List Expr} {body : List Stmt} {pos p p2 apos : Pos} {ma mb : Env → Res P} {mo : Env → Res R} {mr : Env → Res (List P)} {om om' : Om} {env : Env} {σ : L2.St} {H H' : Hp} {g : D → Env → Option Env} {sb : Env → Fl} {tc : Env → Res Bool}

/-- one turn -/
theorem turn {De : Ends} {d : D} {ds : List D} {v : V} {Pv : L2.St → Hp → Prop} {om0 : Om} {H0 : Hp} {σ : L2.St} {H : Hp} {tgR : TG} (ht : tgR = tG Z g) (rl : Rel Z om σ H env) (k0 : Keep om0 H0 om H) (hd : Hd Z.g (hide om H) d v)
    (q : FLands (forD g sb (d :: ds) env) (After Z om H De.nx) (After Z om H De.bk) (After Z om H De.ct) (Back Z De.rt) (Up Z om H W))
    (next : ∀ om' σ' H' e', Rel Z om' σ' H' e' → Keep om H om' H' → FLands (forD g sb ds e') (After Z om' H' De.nx) (After Z om' H' De.bk) (After Z om' H' De.ct) (Back Z De.rt) (Up Z om' H' W) → Pv σ' H') :
    tgR v σ H fun σ2 H2 => tS Z W sb { De with nx := Pv, ct := Pv, bk := De.nx } σ2 H2 := by
  subst ht
  unfold forD at q
  cases hg : g d env with
  | none => rw [hg] at q; exact q.elim
  | some e1 =>
    rw [hg] at q
    refine ⟨om, env, d, rl, hd, e1, hg, fun σ' r1 => ⟨om, e1, r1, ?_⟩⟩
    simp only at q
    cases hb : sb e1 with
    | stuck => rw [hb] at q; exact q
    | nx e' => rw [hb] at q; exact fun om' σ' H' k r => next om' σ' H' e' r k (FLands.weak k q)
    | ct e' => rw [hb] at q; exact fun om' σ' H' k r => next om' σ' H' e' r k (FLands.weak k q)
    | bk e' => rw [hb] at q; exact q
    | rt r e' => rw [hb] at q; exact q
    | rs x e' => rw [hb] at q; exact q
/-- what may be walked: fixed, or read only -/
def P.it? : P → Option (List D)
  | .fz (.lst ds) => some ds
  | .bor .amb (.lst ds) => some ds
  | _ => none
theorem POk.it {q : P} {v : V} {ds : List D} {gg : Ga} (h : POk gg om H q v) (e : q.it? = some ds) : ∃ a xs, v = .ref a ∧ Hds gg (hide om H) ds xs ∧ H a = some (.lst xs) ∧ ∀ om' H', Keep om H om' H' → H' a = some (.lst xs) := by
  unfold P.it? at e
  split at e
  · cases e
    simp only [POk, Hd] at h
    obtain ⟨a, xs, h1, h2, h3⟩ := h
    exact ⟨a, xs, h1, h3, hide_same _ _ h2, fun om' H' k => hide_same _ _ (k.st _ _ h2)⟩
  · cases e
    obtain ⟨_, l, hl, a, xs, h1, h2, h3, h4⟩ := h
    exact ⟨a, xs, h1, h4, h3, fun om' H' k => by rw [(k.am a l h2 hl).2]; exact h3⟩
  · cases e
def sFor (it : P → Option (List D)) (ma : Env → Res P) (g : D → Env → Option Env) (sb : Env → Fl) : Env → Fl := fun env => match ma env with
  | .ok p => match it p with
    | some ds => forD g sb ds env
    | none => .stuck
  | .rs x => .rs x env
  | .stuck => .stuck
theorem drop_cons {α : Type} {l : List α} {i : Nat} {d : α} (h : l[i]? = some d) : l.drop i = d :: l.drop (i + 1) := by
  obtain ⟨h1, h2⟩ := List.getElem?_eq_some_iff.mp h
  rw [List.drop_eq_getElem_cons h1, h2]
theorem s_forL (ks : Ks X Z W) (hi : PE X iter (tP Z W ma)) (hg : PG X tg (tG Z g)) (hb : PSs X body (tS Z W sb)) (hs : ∀ x, foldedSetIterable iter X.env x = pure x := by intro _; rfl) : PS X (.For tg iter body [] pos) (tS Z W (sFor P.it? ma g sb)) :=
  (ps_for ks.pass ks.calm (pi_list hi) hg hb hs).pimp fun De σ H ⟨om, env, rl, q⟩ => by
    unfold sFor at q
    refine ⟨om, env, rl, ?_⟩
    cases hma : ma env with
    | stuck => rw [hma] at q; exact q
    | rs x => rw [hma] at q; exact fun c d H' e ex => q c d om σ H' (keep_grow rl.tr e) (rl.grow e) ex
    | ok pp =>
      rw [hma] at q
      simp only at q
      intro v H1 e1 po
      cases hit : pp.it? with
      | none => rw [hit] at q; exact q.elim
      | some ds =>
        rw [hit] at q
        simp only at q
        obtain ⟨a, xs, h1, h2, h3, h4⟩ := po.it hit
        refine ⟨a, h1, ⟨xs, SqL.of h3⟩, ?_⟩
        have k1 : Keep om H om H1 := keep_grow rl.tr e1
        refine for_list (xs := xs) (fun i σ' H' => ∃ om' env', Rel Z om' σ' H' env' ∧ Keep om H1 om' H' ∧ FLands (forD g sb (ds.drop i) env') (After Z om' H' De.nx) (After Z om' H' De.bk) (After Z om' H' De.ct) (Back Z De.rt) (Up Z om' H' W))
          ⟨om, env, rl.grow e1, Keep.refl _ _, FLands.weak k1 q⟩ (fun i σ' H' _ ⟨om', env', _, k, _⟩ => SqL.of (h4 om' H' k)) (fun i x σ' H' hx ⟨om', env', r, k, w⟩ => ?_) (fun σ' H' ⟨om', env', r, k, w⟩ => ?_)
        · obtain ⟨d, hd1, hd2⟩ := (h2.mono k.st).get' hx
          rw [drop_cons hd1] at w
          exact turn rfl r k hd2 w fun om2 σ2 H2 e2 r2 k2 w2 => ⟨om2, e2, r2, k.trans k2, w2⟩
        · rw [← h2.len, List.drop_length] at w
          exact w om' σ' H' (Keep.refl _ _) r
theorem s_forT (ks : Ks X Z W) (hi : PE X iter (tP Z W ma)) (hg : PG X tg (tG Z g)) (hb : PSs X body (tS Z W sb)) (hs : ∀ x, foldedSetIterable iter X.env x = pure x := by intro _; rfl) : PS X (.For tg iter body [] pos) (tS Z W (sFor P.tup? ma g sb)) :=
  (ps_for ks.pass ks.calm (pi_tup hi) hg hb hs).pimp fun De σ H ⟨om, env, rl, q⟩ => by
    unfold sFor at q
    refine ⟨om, env, rl, ?_⟩
    cases hma : ma env with
    | stuck => rw [hma] at q; exact q
    | rs x => rw [hma] at q; exact fun c d H' e ex => q c d om σ H' (keep_grow rl.tr e) (rl.grow e) ex
    | ok pp =>
      rw [hma] at q
      simp only at q
      intro v H1 e1 po
      cases hit : pp.tup? with
      | none => rw [hit] at q; exact q.elim
      | some ds =>
        rw [hit] at q
        simp only at q
        have hd := tup_of po hit
        simp only [Hd] at hd
        obtain ⟨a, xs, h1, h3, h2⟩ := hd
        refine ⟨a, h1, ⟨xs, SqT.of (hide_same _ _ h3)⟩, ?_⟩
        have k1 : Keep om H om H1 := keep_grow rl.tr e1
        refine for_tup (xs := xs) (fun i σ' H' => ∃ om' env', Rel Z om' σ' H' env' ∧ Keep om H1 om' H' ∧ FLands (forD g sb (ds.drop i) env') (After Z om' H' De.nx) (After Z om' H' De.bk) (After Z om' H' De.ct) (Back Z De.rt) (Up Z om' H' W))
          ⟨om, env, rl.grow e1, Keep.refl _ _, FLands.weak k1 q⟩ (fun i σ' H' _ ⟨om', env', _, k, _⟩ => SqT.of (hide_same _ _ (k.st _ _ h3))) (fun i x σ' H' hx ⟨om', env', r, k, w⟩ => ?_) (fun σ' H' ⟨om', env', r, k, w⟩ => ?_)
        · obtain ⟨d, hd1, hd2⟩ := (h2.mono k.st).get' hx
          rw [drop_cons hd1] at w
          exact turn rfl r k hd2 w fun om2 σ2 H2 e2 r2 k2 w2 => ⟨om2, e2, r2, k.trans k2, w2⟩
        · rw [← h2.len, List.drop_length] at w
          exact w om' σ' H' (Keep.refl _ _) r
/-- the ints of a range, as data -/
def rngD (lo : Int) (n : Nat) : List D := (List.range n).map fun (k : Nat) => D.int (lo + (k : Int))
theorem rngD_get {lo : Int} {n i : Nat} (h : i < n) : (rngD lo n)[i]? = some (.int (lo + (i : Int))) := by
  unfold rngD
  rw [List.getElem?_map, List.getElem?_range h]
  rfl
theorem rngD_len {lo : Int} {n : Nat} : (rngD lo n).length = n := by simp [rngD]
def kRng1 : List P → Option (Int × Nat)
  | [x] => match x.int? with
    | some j => if -4611686018427387904 ≤ j ∧ j < 4611686018427387904 then some (0, j.toNat) else none
    | none => none
  | _ => none
def kRng2 : List P → Option (Int × Nat)
  | [x, y] => match x.int?, y.int? with
    | some i, some j => if -4611686018427387904 ≤ i ∧ i < 4611686018427387904 ∧ -4611686018427387904 ≤ j ∧ j < 4611686018427387904 then some (i, (j - i).toNat) else none
    | _, _ => none
  | _ => none
def sForR (k : List P → Option (Int × Nat)) (mr : Env → Res (List P)) (g : D → Env → Option Env) (sb : Env → Fl) : Env → Fl := fun env => match oneA k mr env with
  | .ok z => forD g sb (rngD z.1 z.2) env
  | .rs x => .rs x env
  | .stuck => .stuck
theorem for_rng {De : Ends} {lo : Int} {n : Nat} {H1 : Hp} (rl : Rel Z om σ H1 env) (q : FLands (forD g sb (rngD lo n) env) (After Z om H1 De.nx) (After Z om H1 De.bk) (After Z om H1 De.ct) (Back Z De.rt) (Up Z om H1 W)) :
    ∃ W' : Nat → Nat → L2.St → Hp → Prop, (∃ m, W' 0 m σ H1) ∧ ∀ i m σ H, W' i m σ H →
      ((Itr lo n).stop i H ∧ De.nx σ H) ∨ ((Itr lo n).go i H ∧ ∃ N : L2.St → Hp → Prop, (∀ σ' H', N σ' H' → ∃ m', m' < m ∧ W' (i + 1) m' σ' H') ∧ ∀ x H', (Itr lo n).yld i H x H' → tG Z g x σ H' fun σ2 H2 => tS Z W sb { De with nx := N, ct := N, bk := De.nx } σ2 H2) := by
  refine for_range (fun i σ' H' => ∃ om' env', Rel Z om' σ' H' env' ∧ Keep om H1 om' H' ∧ FLands (forD g sb ((rngD lo n).drop i) env') (After Z om' H' De.nx) (After Z om' H' De.bk) (After Z om' H' De.ct) (Back Z De.rt) (Up Z om' H' W))
    ⟨om, env, rl, Keep.refl _ _, q⟩ (fun i σ' H' hi ⟨om', env', r, k, w⟩ => ?_) (fun σ' H' ⟨om', env', r, k, w⟩ => ?_)
  · rw [drop_cons (rngD_get hi)] at w
    exact turn rfl r k (by unfold Hd; rfl) w fun om2 σ2 H2 e2 r2 k2 w2 => ⟨om2, e2, r2, k.trans k2, w2⟩
  · have : (rngD lo n).drop n = [] := by rw [List.drop_eq_nil_iff]; exact Nat.le_of_eq rngD_len
    rw [this] at w
    exact w om' σ' H' (Keep.refl _ _) r
theorem s_forR1 (ks : Ks X Z W) (hm : X.mg "range" = none) (ha : PA X [a] (tA Z W mr)) (hg : PG X tg (tG Z g)) (hb : PSs X body (tS Z W sb)) (hgl : Gl X "range" := by rfl) (hst : starEach [a] X.env = [(false, eval a X.env)] := by rfl)
    (hs : ∀ x, foldedSetIterable (.Call (.Name "range" p) [a] [] p2) X.env x = pure x := by intro _; rfl) : PS X (.For tg (.Call (.Name "range" p) [a] [] p2) body [] pos) (tS Z W (sForR kRng1 mr g sb)) :=
  (ps_for ks.pass ks.calm (pi_range1 hgl hm ha hst) hg hb hs).pimp fun De σ H ⟨om, env, rl, q⟩ => by
    unfold sForR oneA at q
    refine ⟨om, env, rl, ?_⟩
    cases hma : mr env with
    | stuck => rw [hma] at q; exact q
    | rs x => rw [hma] at q; exact fun c d H' e ex => q c d om σ H' (keep_grow rl.tr e) (rl.grow e) ex
    | ok ps =>
      rw [hma] at q
      simp only [Res.bind] at q
      intro vs H1 e1 po
      cases hk : kRng1 ps with
      | none => rw [hk] at q; exact q.elim
      | some z =>
        rw [hk] at q
        simp only [Res.of] at q
        unfold kRng1 at hk
        split at hk
        · rename_i x
          obtain ⟨v, rfl, p1⟩ := po.one
          split at hk
          · rename_i j hj
            split at hk
            · rename_i hb
              cases hk
              exact ⟨j, by rw [p1.int hj], hb.1, hb.2, for_rng (rl.grow e1) (FLands.weak (keep_grow rl.tr e1) q)⟩
            · cases hk
          · cases hk
        · cases hk
theorem s_forR2 (ks : Ks X Z W) (hm : X.mg "range" = none) (ha : PA X [a, b] (tA Z W mr)) (hg : PG X tg (tG Z g)) (hb : PSs X body (tS Z W sb)) (hgl : Gl X "range" := by rfl) (hst : starEach [a, b] X.env = [(false, eval a X.env), (false, eval b X.env)] := by rfl) (hst2 : starEach [b] X.env = [(false, eval b X.env)] := by rfl)
    (hs : ∀ x, foldedSetIterable (.Call (.Name "range" p) [a, b] [] p2) X.env x = pure x := by intro _; rfl) : PS X (.For tg (.Call (.Name "range" p) [a, b] [] p2) body [] pos) (tS Z W (sForR kRng2 mr g sb)) :=
  (ps_for ks.pass ks.calm (pi_range2 hgl hm ha hst hst2) hg hb hs).pimp fun De σ H ⟨om, env, rl, q⟩ => by
    unfold sForR oneA at q
    refine ⟨om, env, rl, ?_⟩
    cases hma : mr env with
    | stuck => rw [hma] at q; exact q
    | rs x => rw [hma] at q; exact fun c d H' e ex => q c d om σ H' (keep_grow rl.tr e) (rl.grow e) ex
    | ok ps =>
      rw [hma] at q
      simp only [Res.bind] at q
      intro vs H1 e1 po
      cases hk : kRng2 ps with
      | none => rw [hk] at q; exact q.elim
      | some z =>
        rw [hk] at q
        simp only [Res.of] at q
        unfold kRng2 at hk
        split at hk
        · rename_i x y
          obtain ⟨v, u, rfl, p1, p2⟩ := po.two
          split at hk
          · rename_i i j hi hj
            split at hk
            · rename_i hb
              cases hk
              exact ⟨i, j, by rw [p1.int hi, p2.int hj], hb, for_rng (rl.grow e1) (FLands.weak (keep_grow rl.tr e1) q)⟩
            · cases hk
          · cases hk
        · cases hk
theorem s_while (fuel : Nat) (ks : Ks X Z W) (hc : PT X c (tB Z W tc)) (hb : PSs X body (tS Z W sb)) : PS X (.While c body [] pos) (tS Z W (whD tc sb fuel)) :=
  (ps_while ks.pass hc hb).pimp fun De σ H ⟨om, env, rl, q⟩ => by
    refine ⟨fun m σ' H' => ∃ om' env', Rel Z om' σ' H' env' ∧ FLands (whD tc sb m env') (After Z om' H' De.nx) (After Z om' H' De.bk) (After Z om' H' De.ct) (Back Z De.rt) (Up Z om' H' W), ⟨fuel, om, env, rl, q⟩, ?_⟩
    rintro m σ' H' ⟨om', env', r, w⟩
    refine ⟨om', env', r, ?_⟩
    cases m with
    | zero => exact w.elim
    | succ m =>
      unfold whD at w
      cases hx : tc env' with
      | stuck => rw [hx] at w; exact w
      | rs x => rw [hx] at w; exact fun c d H' e ex => w c d om' σ' H' (keep_grow r.tr e) (r.grow e) ex
      | ok x =>
        rw [hx] at w
        intro H1 e1
        have k1 := keep_grow r.tr e1
        cases x with
        | false =>
          rw [if_neg Bool.false_ne_true]
          exact w om' σ' H1 k1 (r.grow e1)
        | true =>
          rw [if_pos rfl]
          simp only at w
          refine ⟨fun σ2 H2 => ∃ om2 env2, Rel Z om2 σ2 H2 env2 ∧ FLands (whD tc sb m env2) (After Z om2 H2 De.nx) (After Z om2 H2 De.bk) (After Z om2 H2 De.ct) (Back Z De.rt) (Up Z om2 H2 W), fun σ2 H2 h => ⟨m, Nat.lt_succ_self _, h⟩, om', env', r.grow e1, ?_⟩
          have w := FLands.weak k1 w
          cases hb : sb env' with
          | stuck => rw [hb] at w; exact w
          | nx e' => rw [hb] at w; exact fun om2 σ2 H2 k r2 => ⟨om2, e', r2, FLands.weak k w⟩
          | ct e' => rw [hb] at w; exact fun om2 σ2 H2 k r2 => ⟨om2, e', r2, FLands.weak k w⟩
          | bk e' => rw [hb] at w; exact w
          | rt r e' => rw [hb] at w; exact w
          | rs x e' => rw [hb] at w; exact w
end

/-! ### comprehensions -/
abbrev W0 : WX := fun _ _ _ _ => False
theorem Kx.blk {X : Cx} {Z : Zc} {W : WX} (k : Kx X Z W) (s : Shared) (H : Hp) (scope : Scope) (cenv : PySem.Env) (fp : List Addr) : Kx (X.blk s H scope cenv fp) Z W0 :=
  ⟨k.gK, k.gm, k.calm, k.hu, fun σ pins H s e s' I c => by obtain ⟨_, _, _, _, _, _, _, _, _, _, _, _, h⟩ := c; exact h.elim, k.nd⟩
/-- the block's own slots emptied -/
def wipeE (env : Env) : List Nat → Env
  | [] => env
  | v :: vs => (wipeE env vs).set v .un
def compD (g : D → Env → Option Env) (tc : Env → Res Bool) (me : Env → Res P) (env : Env) : List D → List D → Res (List D)
  | [], acc => .ok acc
  | d :: ds, acc => match g d env with
    | none => .stuck
    | some e => match tc e with
      | .ok false => compD g tc me env ds acc
      | .ok true => match me e with
        | .ok (.fz y) => compD g tc me env ds (acc ++ [y])
        | _ => .stuck
      | _ => .stuck
section
variable {X : Cx} {Z : Zc} {W : WX} {om om' : Om} {env : Env} {σ : L2.St} {H H' : Hp}
theorem wipe_rel (vs : List Nat) (rl : Rel Z om σ H env) (h0 : ∀ v, v ∈ vs → ∀ o, env[v]? ≠ some (.mu o)) : Rel Z om (wipe σ vs) H (wipeE env vs) := by
  induction vs with
  | nil => exact rl
  | cons v vs ih =>
    have r := ih fun w hw => h0 w (List.mem_cons_of_mem _ hw)
    show Rel Z om ((wipe σ vs).set v none) H ((wipeE env vs).set v .un)
    refine ⟨r.tr, r.nt, r.kp, by simp [r.ln], fun j s hj => ?_, fun o ho => ?_⟩
    · by_cases z : j = v
      · subst z
        cases hl : (wipeE env vs)[j]? with
        | none => rw [List.getElem?_eq_none (by rw [List.length_set]; exact List.getElem?_eq_none_iff.mp hl)] at hj; cases hj
        | some _ => rw [List.getElem?_set_self (List.getElem?_eq_some_iff.mp hl).1] at hj; cases hj; trivial
      · rw [List.getElem?_set_ne (fun w => z w.symm)] at hj ⊢
        exact r.sl j s hj
    · by_cases z : 0 = v
      · subst z
        cases hl : (wipeE env vs)[0]? with
        | none => rw [List.getElem?_eq_none (by rw [List.length_set]; exact List.getElem?_eq_none_iff.mp hl)] at ho; cases ho
        | some _ => rw [List.getElem?_set_self (List.getElem?_eq_some_iff.mp hl).1] at ho; cases ho
      · rw [List.getElem?_set_ne (fun w => z w.symm)] at ho ⊢
        exact r.mu o ho
def tYesB : Env → Res Bool := fun _ => .ok true
theorem ts_nil : PTs X [] (tB Z W tYesB) := ⟨fun pins s σ H Q I ⟨om, env, rl, q⟩ => pts_nil.run pins s σ H Q I (q H (Same.refl _))⟩
theorem Rel.mutX (rl : Rel Z om σ H env) {q : Addr} {L : Nat} {u : HO} (hq : om q = some (.slot L)) (hL : env.length ≤ L) : Rel Z om σ (upd H q u) env := by
  have k : Keep om H om (upd H q u) := keep_mut hq (fun z => by cases z)
  refine ⟨fun a l h => ?_, rl.nt, rl.kp.trans k, rl.ln, fun j s hj => ?_, rl.mu⟩
  · by_cases z : a = q
    · subst z; exact ⟨_, upd_same⟩
    · rw [upd_ne z]; exact rl.tr a l h
  · refine (rl.sl j s hj).mono k.st fun r hr a l h' hl' => ⟨h', ?_⟩
    rw [upd_ne]
    intro w
    subst w
    rw [hq] at h'
    cases h'
    have := (List.getElem?_eq_some_iff.mp hj).1
    rcases hr with rfl | rfl
    · cases hl'
    · cases hl'; omega
theorem wipeE_len (env : Env) : ∀ vs, (wipeE env vs).length = env.length
  | [] => rfl
  | v :: vs => by show ((wipeE env vs).set v .un).length = _; rw [List.length_set, wipeE_len env vs]
/-- a comprehension over the data ds, the block's name in slot v -/
def mComp (v : Nat) (tc : Env → Res Bool) (me : Env → Res P) (ds : List D) (env : Env) : Res R := if free? env v = true ∧ ds.length ≤ 16777216 then (match compD (gN v) tc me (wipeE env [v]) ds [] with
  | .ok z => .ok (.tmp (.lst z))
  | _ => .stuck) else .stuck
/-- what holds at a comprehension's turn -/
def CSt (Z : Zc) (om : Om) (σ : L2.St) (env : Env) (H1 : Hp) (v : Nat) (A : Addr) (tc : Env → Res Bool) (me : Env → Res P) (ds z : List D) (i : Nat) (H' : Hp) : Prop :=
  ∃ dacc acc, H' A = some (.lst acc) ∧ Rel Z (lab om A (.slot env.length)) (wipe σ [v]) H' (wipeE env [v]) ∧ Hds Z.g (hide (lab om A (.slot env.length)) H') dacc acc ∧ Same H1 H' ∧ dacc.length ≤ i ∧ compD (gN v) tc me (wipeE env [v]) (ds.drop i) dacc = .ok z
variable {v : Nat} {A : Addr} {tc : Env → Res Bool} {me : Env → Res P} {ds z : List D} {H1 : Hp}
theorem comp_start (rl : Rel Z om σ H1 env) (hA : H1 A = none) (h0 : ∀ o, env[v]? ≠ some (.mu o)) (q : compD (gN v) tc me (wipeE env [v]) ds [] = .ok z) : CSt Z om σ env H1 v A tc me ds z 0 (upd H1 A (.lst [])) := by
  refine ⟨[], [], upd_same, ?_, .nil, same_new hA, Nat.le_refl _, q⟩
  have oA : om A = none := om_none rl.tr hA
  have hh : hide (lab om A (.slot env.length)) (upd H1 A (.lst [])) = hide om H1 := hide_lab hA
  have r0 : Rel Z (lab om A (.slot env.length)) σ (upd H1 A (.lst [])) env := rl.relab ⟨by rw [hh]; exact Same.refl _, fun a l h hr => by
      have w : a ≠ A := fun w => by subst w; rw [oA] at h; cases h
      exact ⟨by rw [lab_ne w]; exact h, by rw [upd_ne w]⟩, fun a l h hr => by
      by_cases w : a = A
      · subst w; rw [lab_same] at h; cases h; cases hr
      · rw [lab_ne w] at h; exact h⟩ (fun a l h => by
      by_cases w : a = A
      · subst w; exact ⟨_, upd_same⟩
      · rw [lab_ne w] at h
        rw [upd_ne w]
        exact rl.tr a l h) (fun a l h => by
      by_cases w : a = A
      · subst w; rw [lab_same] at h; cases h; exact fun z => by cases z
      · rw [lab_ne w] at h
        exact rl.nt a l h) (fun a l h => by
      have w : a ≠ A := fun w => by subst w; rw [oA] at h; cases h
      rw [lab_ne w]; exact h) (same_new hA)
  exact wipe_rel [v] r0 fun w hw o => by
    have : w = v := by simpa using hw
    subst this
    exact h0 o
theorem comp_turn {x : V} {d : D} {i : Nat} {T2 : V → Hp → Prop} (hlen : ds.length ≤ 16777216) (hd1 : ds[i]? = some d) (hA : H1 A = none) (c : CSt Z om σ env H1 v A tc me ds z i H') (hd : Hd Z.g (hide (lab om A (.slot env.length)) H') d x) :
    gName v x (wipe σ [v]) H' fun σ2 H2 => wipe σ2 [v] = wipe σ [v] ∧ tB Z W0 tc σ2 H2 fun b H3 => if b = true then tP Z W0 me σ2 H3 fun y H4 => ∃ acc, H4 A = some (.lst acc) ∧ acc.length < sizeLine ∧ CSt Z om σ env H1 v A tc me ds z (i + 1) (upd H4 A (.lst (acc ++ [y]))) else CSt Z om σ env H1 v A tc me ds z (i + 1) H3 := by
  obtain ⟨dacc, acc, c1, c2, c3, c4, c5, c6⟩ := c
  have hi := (List.getElem?_eq_some_iff.mp hd1).1
  rw [drop_cons hd1] at c6
  unfold compD at c6
  cases hg : gN v d (wipeE env [v]) with
  | none => rw [hg] at c6; cases c6
  | some e1 =>
    rw [hg] at c6
    simp only at c6
    have r1 : Rel Z (lab om A (.slot env.length)) ((wipe σ [v]).set v (some x)) H' e1 := setP_ok (p := .fz d) c2 hd hg
    refine ⟨?_, lab om A (.slot env.length), e1, r1, ?_⟩
    · show (((σ.set v none).set v (some x)).set v none) = σ.set v none
      rw [List.set_set, List.set_set]
    · have lA : lab om A (.slot env.length) A = some (.slot env.length) := lab_same
      have hl2 : (wipeE env [v]).length ≤ env.length := Nat.le_of_eq (wipeE_len _ _)
      cases ht : tc e1 with
      | stuck => rw [ht] at c6; cases c6
      | rs w => rw [ht] at c6; cases c6
      | ok b =>
        rw [ht] at c6
        intro H3 e3
        cases b with
        | false =>
          rw [if_neg Bool.false_ne_true]
          exact ⟨dacc, acc, e3 _ _ c1, c2.grow e3, c3.mono (hide_grow e3), c4.trans e3, by omega, c6⟩
        | true =>
          rw [if_pos rfl]
          simp only at c6
          refine ⟨lab om A (.slot env.length), e1, r1.grow e3, ?_⟩
          cases hm : me e1 with
          | stuck => rw [hm] at c6; cases c6
          | rs w => rw [hm] at c6; cases c6
          | ok pp =>
            rw [hm] at c6
            cases pp with
            | bor l o => cases c6
            | fz y =>
              simp only at c6
              intro w H4 e4 pw
              have e34 := e3.trans e4
              have hc := e34 _ _ c1
              refine ⟨acc, hc, ?_, dacc ++ [y], acc ++ [w], upd_same, (c2.grow e34).mutX lA hl2, ?_, ?_, ?_, c6⟩
              · rw [← c3.len, sizeLine_eq]; omega
              · rw [hide_mut lA]
                exact (c3.mono (hide_grow e34)).app (.one pw)
              · intro a u hu
                rw [upd_ne (ne_of_none hu hA)]
                exact e34 a u (c4 a u hu)
              · simp; omega
theorem comp_end {Q : VK} {H0 : Hp} (rl : Rel Z om σ H0 env) (e0 : Same H0 H1) (hA : H1 A = none) (c : CSt Z om σ env H1 v A tc me ds z ds.length H')
    (q : ∀ v om' H', New om H0 om' H' → ROk Z.g om' H' (.tmp (.lst z)) v → Q v H') : Q (.ref A) H' := by
  obtain ⟨dacc, acc, c1, c2, c3, c4, c5, c6⟩ := c
  rw [List.drop_length] at c6
  unfold compD at c6
  cases c6
  have oA : om A = none := om_none rl.tr (e0.free hA)
  have hh : hide (lab om A .tmp) H' = hide (lab om A (.slot env.length)) H' := hide_none fun a => by
    by_cases w : a = A
    · subst w; rw [lab_same, lab_same]; simp
    · rw [lab_ne w, lab_ne w]
  refine q (.ref A) (lab om A .tmp) H' ⟨e0.trans c4, fun a l h => ?_, fun a l h => ?_⟩ ⟨A, acc, rfl, lab_same, c1, by rw [hh]; exact c3⟩
  · rw [lab_ne (fun w => by subst w; rw [oA] at h; cases h)]; exact h
  · by_cases w : a = A
    · subst w
      rw [lab_same] at h
      cases h
      exact .inr ⟨e0.free hA, rfl, _, c1⟩
    · rw [lab_ne w] at h
      exact .inl h
end
section
variable {X : Cx} {Z : Zc} {W : WX} {a b iter elt tg : Expr} {ifs : List Expr} {scope : Scope} {pos p p2 py spos : Pos} {ma : Env → Res P} {mr : Env → Res (List P)} {v : Nat} {tc : Env → Res Bool} {me : Env → Res P}
/-- .. over a list, a tuple -/
def mLc (it : P → Option (List D)) (v : Nat) (ma : Env → Res P) (tc : Env → Res Bool) (me : Env → Res P) : Env → Res R := fun env => match ma env with
  | .ok pp => match it pp with
    | some ds => mComp v tc me ds env
    | none => .stuck
  | .rs x => .rs x
  | .stuck => .stuck
theorem mComp_ok {ds : List D} {env : Env} {A : R → Prop} {B : Exc → Prop} (q : Lands (mComp v tc me ds env) A B) : free? env v = true ∧ ds.length ≤ 16777216 ∧ ∃ z, compD (gN v) tc me (wipeE env [v]) ds [] = .ok z ∧ A (.tmp (.lst z)) := by
  unfold mComp at q
  split at q
  · rename_i h
    cases hc : compD (gN v) tc me (wipeE env [v]) ds [] with
    | ok z => rw [hc] at q; exact ⟨h.1, h.2, z, rfl, q⟩
    | rs x => rw [hc] at q; exact q.elim
    | stuck => rw [hc] at q; exact q.elim
  · exact q.elim
theorem lcL_imp : ∀ σ H Q, tO Z W (mLc P.it? v ma tc me) σ H Q → tLc (iList X.K (tP Z W ma)) (gName v) (tB Z W0 tc) (tP Z W0 me) [v] σ H Q := fun σ H Q ⟨om, env, rl, q⟩ => by
  unfold mLc at q
  refine ⟨om, env, rl, ?_⟩
  cases hma : ma env with
  | stuck => rw [hma] at q; exact q
  | rs x => rw [hma] at q; exact q
  | ok pp =>
    rw [hma] at q
    simp only at q
    intro w H1 e1 po
    cases hit : pp.it? with
    | none => rw [hit] at q; exact q.elim
    | some ds =>
      rw [hit] at q
      obtain ⟨q1, q2, z, q3, q4⟩ := mComp_ok q
      obtain ⟨a, xs, h1, h2, h3, h4⟩ := po.it hit
      refine ⟨a, h1, ⟨xs, SqL.of h3⟩, fun A hA => ?_⟩
      have rl1 := rl.grow e1
      have sub : ∀ H', Same H1 H' → Same (hide om H1) (hide (lab om A (.slot env.length)) H') := fun H' s x u w => by
        obtain ⟨w1, w2⟩ := hide_iff.mp w
        exact hide_iff.mpr ⟨by rw [lab_ne (ne_of_none w2 hA)]; exact w1, s _ _ w2⟩
      refine lc_list (xs := xs) (CSt Z om σ env H1 v A tc me ds z) (comp_start rl1 hA (free_ok q1).1 q3) (fun i H' _ c => ?_) (fun i x H' hx c => ?_) (fun H' c => ?_)
      · obtain ⟨_, _, _, _, _, s, _⟩ := c
        exact SqL.of (s _ _ h3)
      · obtain ⟨d, hd1, hd2⟩ := h2.get' hx
        have s : Same H1 H' := by obtain ⟨_, _, _, _, _, s, _⟩ := c; exact s
        exact comp_turn (T2 := fun _ _ => True) q2 hd1 hA c (hd2.mono (sub H' s))
      · rw [← h2.len] at c
        exact comp_end rl e1 hA c q4
theorem lcT_imp : ∀ σ H Q, tO Z W (mLc P.tup? v ma tc me) σ H Q → tLc (iTup X.K (tP Z W ma)) (gName v) (tB Z W0 tc) (tP Z W0 me) [v] σ H Q := fun σ H Q ⟨om, env, rl, q⟩ => by
  unfold mLc at q
  refine ⟨om, env, rl, ?_⟩
  cases hma : ma env with
  | stuck => rw [hma] at q; exact q
  | rs x => rw [hma] at q; exact q
  | ok pp =>
    rw [hma] at q
    simp only at q
    intro w H1 e1 po
    cases hit : pp.tup? with
    | none => rw [hit] at q; exact q.elim
    | some ds =>
      rw [hit] at q
      obtain ⟨q1, q2, z, q3, q4⟩ := mComp_ok q
      obtain ⟨a, xs, h1, h3, h2⟩ := po.tup hit
      refine ⟨a, h1, ⟨xs, SqT.of h3⟩, fun A hA => ?_⟩
      have rl1 := rl.grow e1
      have sub : ∀ H', Same H1 H' → Same (hide om H1) (hide (lab om A (.slot env.length)) H') := fun H' s x u w => by
        obtain ⟨w1, w2⟩ := hide_iff.mp w
        exact hide_iff.mpr ⟨by rw [lab_ne (ne_of_none w2 hA)]; exact w1, s _ _ w2⟩
      refine lc_tup (xs := xs) (CSt Z om σ env H1 v A tc me ds z) (comp_start rl1 hA (free_ok q1).1 q3) (fun i H' _ c => ?_) (fun i x H' hx c => ?_) (fun H' c => ?_)
      · obtain ⟨_, _, _, _, _, s, _⟩ := c
        exact SqT.of (s _ _ h3)
      · obtain ⟨d, hd1, hd2⟩ := h2.get' hx
        have s : Same H1 H' := by obtain ⟨_, _, _, _, _, s, _⟩ := c; exact s
        exact comp_turn (T2 := fun _ _ => True) q2 hd1 hA c (hd2.mono (sub H' s))
      · rw [← h2.len] at c
        exact comp_end rl e1 hA c q4
def mLcR (k : List P → Option (Int × Nat)) (v : Nat) (mr : Env → Res (List P)) (tc : Env → Res Bool) (me : Env → Res P) : Env → Res R := fun env => match oneA k mr env with
  | .ok z => mComp v tc me (rngD z.1 z.2) env
  | .rs x => .rs x
  | .stuck => .stuck
theorem lc_rng {om : Om} {env : Env} {σ : L2.St} {H0 H1 : Hp} {lo : Int} {n : Nat} {Q : VK} {B : Exc → Prop} (rl : Rel Z om σ H0 env) (e1 : Same H0 H1) (q : Lands (mComp v tc me (rngD lo n) env) (fun r => ∀ v om' H', New om H0 om' H' → ROk Z.g om' H' r v → Q v H') B) {A : Addr} (hA : H1 A = none) :
    ∃ W' : Nat → Nat → Hp → Prop, (∃ m, W' 0 m (upd H1 A (.lst []))) ∧ ∀ i m H, W' i m H →
      ((Itr lo n).stop i H ∧ Q (.ref A) H) ∨ ((Itr lo n).go i H ∧ ∃ Nx : Hp → Prop, (∀ H', Nx H' → ∃ m', m' < m ∧ W' (i + 1) m' H') ∧ ∀ x H', (Itr lo n).yld i H x H' → gName v x (wipe σ [v]) H' fun σ2 H2 => wipe σ2 [v] = wipe σ [v] ∧ tB Z W0 tc σ2 H2 fun b H3 =>
        if b = true then tP Z W0 me σ2 H3 fun y H4 => ∃ acc, H4 A = some (.lst acc) ∧ acc.length < sizeLine ∧ Nx (upd H4 A (.lst (acc ++ [y]))) else Nx H3) := by
  obtain ⟨q1, q2, z, q3, q4⟩ := mComp_ok q
  have rl1 := rl.grow e1
  refine lc_range (CSt Z om σ env H1 v A tc me (rngD lo n) z) (comp_start rl1 hA (free_ok q1).1 q3) (fun i H' hi c => ?_) (fun H' c => ?_)
  · exact comp_turn (T2 := fun _ _ => True) q2 (rngD_get hi) hA c (by unfold Hd; rfl)
  · have c' : CSt Z om σ env H1 v A tc me (rngD lo n) z (rngD lo n).length H' := by rw [rngD_len]; exact c
    exact comp_end rl e1 hA c' q4
theorem lcR1_imp : ∀ σ H Q, tO Z W (mLcR kRng1 v mr tc me) σ H Q → tLc (iRng1 (tA Z W mr)) (gName v) (tB Z W0 tc) (tP Z W0 me) [v] σ H Q := fun σ H Q ⟨om, env, rl, q⟩ => by
  unfold mLcR oneA at q
  refine ⟨om, env, rl, ?_⟩
  cases hma : mr env with
  | stuck => rw [hma] at q; exact q
  | rs x => rw [hma] at q; exact q
  | ok ps =>
    rw [hma] at q
    simp only [Res.bind] at q
    intro vs H1 e1 po
    cases hk : kRng1 ps with
    | none => rw [hk] at q; exact q.elim
    | some z =>
      rw [hk] at q
      simp only [Res.of] at q
      unfold kRng1 at hk
      split at hk
      · rename_i x
        obtain ⟨v, rfl, p1⟩ := po.one
        split at hk
        · rename_i j hj
          split at hk
          · rename_i hb
            cases hk
            exact ⟨j, by rw [p1.int hj], hb.1, hb.2, fun A hA => lc_rng rl e1 q hA⟩
          · cases hk
        · cases hk
      · cases hk
theorem lcR2_imp : ∀ σ H Q, tO Z W (mLcR kRng2 v mr tc me) σ H Q → tLc (iRng2 (tA Z W mr)) (gName v) (tB Z W0 tc) (tP Z W0 me) [v] σ H Q := fun σ H Q ⟨om, env, rl, q⟩ => by
  unfold mLcR oneA at q
  refine ⟨om, env, rl, ?_⟩
  cases hma : mr env with
  | stuck => rw [hma] at q; exact q
  | rs x => rw [hma] at q; exact q
  | ok ps =>
    rw [hma] at q
    simp only [Res.bind] at q
    intro vs H1 e1 po
    cases hk : kRng2 ps with
    | none => rw [hk] at q; exact q.elim
    | some z =>
      rw [hk] at q
      simp only [Res.of] at q
      unfold kRng2 at hk
      split at hk
      · rename_i x y
        obtain ⟨v, u, rfl, p1, p2⟩ := po.two
        split at hk
        · rename_i i j hi hj
          split at hk
          · rename_i hb
            cases hk
            exact ⟨i, j, by rw [p1.int hi, p2.int hj], hb, fun A hA => lc_rng rl e1 q hA⟩
          · cases hk
        · cases hk
      · cases hk
abbrev BG (X : Cx) (scope : Scope) (tg : Expr) (v : Nat) : Prop := ∀ (s : Shared) (H : Hp) (C : Addr) (cl : List (Str × Addr)) (fp : List Addr), PG (X.blk s H scope (compEnvC scope cl C X.env) fp) tg (gName v)
abbrev BT (X : Cx) (Z : Zc) (scope : Scope) (ifs : List Expr) (tc : Env → Res Bool) : Prop := ∀ (s : Shared) (H : Hp) (C : Addr) (cl : List (Str × Addr)) (fp : List Addr), Kx (X.blk s H scope (compEnvC scope cl C X.env) fp) Z W0 → PTs (X.blk s H scope (compEnvC scope cl C X.env) fp) ifs (tB Z W0 tc)
abbrev BE (X : Cx) (Z : Zc) (scope : Scope) (elt : Expr) (me : Env → Res P) : Prop := ∀ (s : Shared) (H : Hp) (C : Addr) (cl : List (Str × Addr)) (fp : List Addr), Kx (X.blk s H scope (compEnvC scope cl C X.env) fp) Z W0 → PE (X.blk s H scope (compEnvC scope cl C X.env) fp) elt (tP Z W0 me)
theorem r_lc {wi : TI} {m : Env → Res R} {x : Str} (kx : Kx X Z W) (imp : ∀ σ H Q, tO Z W m σ H Q → tLc wi (gName v) (tB Z W0 tc) (tP Z W0 me) [v] σ H Q) (hi : PI X tg iter wi) (ok : BlkOk X.N X.env.scope scope [(x, v)])
    (hg : BG X scope tg v) (ht : BT X Z scope ifs tc) (he : BE X Z scope elt me) (hs : ∀ x, foldedSetIterable iter X.env x = pure x := by intro _; rfl) :
    PE X (.ListComp elt [⟨tg, iter, ifs, 0⟩] scope pos) (tO Z W m) := (pe_lc kx.calm kx.nd hi ok hg (fun s H C cl fp => ht s H C cl fp (kx.blk _ _ _ _ _)) (fun s H C cl fp => he s H C cl fp (kx.blk _ _ _ _ _)) hs).pimp imp
theorem s_lc {wi : TI} {m : Env → Res R} {x : Str} {i : Nat} {y : Str} (kx : Kx X Z W) (hy : X.N[i]? = some y) (hyl : X.env.scope.names.lookup y = some .local) (imp : ∀ σ H Q, tO Z W m σ H Q → tLc wi (gName v) (tB Z W0 tc) (tP Z W0 me) [v] σ H Q) (hi : PI X tg iter wi) (ok : BlkOk X.N X.env.scope scope [(x, v)])
    (hg : BG X scope tg v) (ht : BT X Z scope ifs tc) (he : BE X Z scope elt me) (hsw : swapsWith (.ListComp elt [⟨tg, iter, ifs, 0⟩] scope pos) (some (.Name y py)) spos.line X.env = pure true) (hs : ∀ x, foldedSetIterable iter X.env x = pure x := by intro _; rfl) :
    PS X (.Assign [.Name y py] (.ListComp elt [⟨tg, iter, ifs, 0⟩] scope pos) spos) (tS Z W (sSet i (mOp m))) :=
  (ps_setLc kx.calm kx.nd hy hyl hsw hi ok hg (fun s H C cl fp => ht s H C cl fp (kx.blk _ _ _ _ _)) (fun s H C cl fp => he s H C cl fp (kx.blk _ _ _ _ _)) hs).pimp fun De σ H q => imp σ H _ (op_imp σ H _ (set_imp De σ H q))
theorem s_lcO {wi : TI} {m : Env → Res R} {x : Str} {i : Nat} {y : Str} (kx : Kx X Z W) (hy : X.N[i]? = some y) (hyl : X.env.scope.names.lookup y = some .local) (imp : ∀ σ H Q, tO Z W m σ H Q → tLc wi (gName v) (tB Z W0 tc) (tP Z W0 me) [v] σ H Q) (hi : PI X tg iter wi) (ok : BlkOk X.N X.env.scope scope [(x, v)])
    (hg : BG X scope tg v) (ht : BT X Z scope ifs tc) (he : BE X Z scope elt me) (hsw : swapsWith (.ListComp elt [⟨tg, iter, ifs, 0⟩] scope pos) (some (.Name y py)) spos.line X.env = pure true) (hs : ∀ x, foldedSetIterable iter X.env x = pure x := by intro _; rfl) :
    PS X (.Assign [.Name y py] (.ListComp elt [⟨tg, iter, ifs, 0⟩] scope pos) spos) (tS Z W (sOwn i m)) :=
  (ps_setLc kx.calm kx.nd hy hyl hsw hi ok hg (fun s H C cl fp => ht s H C cl fp (kx.blk _ _ _ _ _)) (fun s H C cl fp => he s H C cl fp (kx.blk _ _ _ _ _)) hs).pimp fun De σ H q => imp σ H _ (own_imp De σ H q)
end

/-! ### a def -/
def outOf (e : Env) : Option O := match e[(0 : Nat)]? with
  | some (.mu o) => some o
  | _ => none
def runF (np n : Nat) (m : Env → Fl) (args : List S) : CallR := if args.length = np ∧ np ≤ n then (match m (args ++ List.replicate (n - np) .un) with
  | .nx e => .ok (.fz .non) (outOf e)
  | .rt (.bor _ _) _ => .stuck
  | .rt r e => .ok r (outOf e)
  | .rs x e => .rs x (outOf e)
  | _ => .stuck) else .stuck
theorem args_len {g : Ga} {om : Om} {H : Hp} : ∀ {i : Nat} {args : List S} {vs : List V}, ArgsOk g om H i args vs → args.length = vs.length
  | _, [], vs, h => by rw [show vs = [] from h]; rfl
  | i, s :: ss, vs, ⟨v, r, h1, _, h3⟩ => by rw [h1]; simp [args_len h3]
theorem args_get {g : Ga} {om : Om} {H : Hp} : ∀ {i j : Nat} {args : List S} {vs : List V} {s : S}, ArgsOk g om H i args vs → args[j]? = some s → ∃ v, vs[j]? = some v ∧ ArgOk g om H (i + j) v s
  | _, _, [], vs, s, h, e => by simp at e
  | i, 0, s :: ss, vs, s', ⟨v, r, h1, h2, h3⟩, e => by simp at e; subst e; exact ⟨v, by rw [h1]; rfl, h2⟩
  | i, j + 1, s :: ss, vs, s', ⟨v, r, h1, h2, h3⟩, e => by
    obtain ⟨w, w1, w2⟩ := args_get (j := j) h3 (by simpa using e)
    exact ⟨w, by rw [h1]; simpa using w1, by rw [show i + (j + 1) = i + 1 + j by omega]; exact w2⟩
theorem rel_start {g : Ga} {om : Om} {H : Hp} {args : List S} {vs : List V} {N : List Str} (tr : ∀ a l, om a = some l → ∃ o, H a = some o) (nt : ∀ a l, om a = some l → l.root ≠ .tmp) (h : ArgsOk g om H 0 args vs) (hn : vs.length ≤ N.length) :
    Rel ⟨g, om, H, vs.head?⟩ om (L2.start N vs) H (args ++ List.replicate (N.length - vs.length) .un) := by
  refine ⟨tr, nt, Keep.refl _ _, by simp [L2.start, args_len h], fun i s hs => ?_, fun o ho => ?_⟩
  · by_cases hi : i < args.length
    · rw [List.getElem?_append_left hi] at hs
      obtain ⟨v, h1, h2⟩ := args_get h hs
      have h3 : (L2.start N vs)[i]? = some (some v) := by
        unfold L2.start
        rw [List.getElem?_append_left (by rw [List.length_map, ← args_len h]; exact hi), List.getElem?_map, h1]
        rfl
      rw [Nat.zero_add] at h2
      rw [h3]
      cases s with
      | un => trivial
      | fz d => exact ⟨v, rfl, h2⟩
      | rd o => obtain ⟨l, hl, ow⟩ := h2; exact ⟨v, l, rfl, hl, ow⟩
      | ow o => exact h2.elim
      | mu o =>
        obtain ⟨hz, ow⟩ := h2
        subst hz
        exact ⟨v, rfl, ow⟩
    · rw [List.getElem?_append_right (Nat.le_of_not_lt hi)] at hs
      have : s = .un := by
        have := List.mem_of_getElem? hs
        exact (List.mem_replicate.mp this).2
      subst this
      trivial
  · cases args with
    | nil =>
      exfalso
      rw [List.nil_append] at ho
      have := (List.mem_replicate.mp (List.mem_of_getElem? ho)).2
      cases this
    | cons s ss =>
      simp at ho
      subst ho
      obtain ⟨v, r, h1, _, _⟩ := h
      subst h1
      rfl
theorem outOk_of {Z : Zc} {om : Om} {H : Hp} {e : Env} {v0 : Option V} (h : MuOk Z om H e) (hv : Z.v0 = v0) : OutOk Z.g om H v0 (outOf e) := by
  unfold outOf
  split
  · rename_i o ho
    obtain ⟨v, h1, h2⟩ := h o ho
    exact ⟨v, by rw [← hv, h1], h2⟩
  · trivial
section
variable {P : Program} {w : World} {K : PySem.W.Frag} {mg : Str → Option Value} {base : Heap}
/-- THE RULE for a def: its body's mirror -/
theorem rf_ok {x qual : Str} {st : Stmt} {f : Addr} {fd : FuncData} {N ps : List Str} {k : Nat} {m : Env → Fl} (F : Fun K x qual st f fd) (S : FnScope N ps (defScope st)) (hn : ps.length ≤ N.length)
    (hb : ∀ (cdv : Value) (A : Around) (outer : List PySem.Env) (s : Shared) (H : Hp) (E : XK) (om0 : Om) (H0 : Hp) (v0 : Option V) (W : WX), Room k (A.deeper (envOfC qual (defScope st) s.heap.objs.size f cdv)) →
      Ks (cxOf (L2.CX P w) P w K mg base N qual (defScope st) f cdv A outer s H E) ⟨⟨K, mg⟩, om0, H0, v0⟩ W → PSs (cxOf (L2.CX P w) P w K mg base N qual (defScope st) f cdv A outer s H E) (defBody st) (tS ⟨⟨K, mg⟩, om0, H0, v0⟩ W m)) :
    FnOk P w K mg base (L2.CX P w) (k + 1) f fd ps (spF ⟨K, mg⟩ (runF ps.length N.length m)) := by
  refine F.okX S (fun vs H Q E h => ?_) (fun cdv A outer s H vs Q E hr h => ?_)
  · obtain ⟨om, args, _, _, h3, h4⟩ := h
    unfold runF at h4
    split at h4
    · rename_i hl
      rw [← args_len h3]
      exact hl.1
    · exact h4.elim
  · obtain ⟨om, args, h1, h2, h3, h4⟩ := h
    unfold runF at h4
    split at h4
    · rename_i hl
      have hlen := args_len h3
      have hps : vs.length = ps.length := by rw [← hlen]; exact hl.1
      refine ⟨tS ⟨⟨K, mg⟩, om, H, vs.head?⟩ (fun cls d _ H => E cls d H) m, hb cdv A outer s H E _ _ _ _ hr ?_, om, args ++ List.replicate (N.length - vs.length) .un, rel_start h1 h2 h3 (by rw [hps]; exact hn), ?_⟩
      · exact { gK := rfl, gm := rfl, calm := rfl, hu := hr.units, esc := fun σ => passAt (takes_of rfl rfl rfl rfl) σ, nd := S.nd, tk := takes_of rfl rfl rfl rfl, pass := passes_of rfl }
      · rw [hps]
        cases hm : m (args ++ List.replicate (N.length - ps.length) .un) with
        | stuck => rw [hm] at h4; exact h4.elim
        | bk e => rw [hm] at h4; exact h4.elim
        | ct e => rw [hm] at h4; exact h4.elim
        | nx e =>
          rw [hm] at h4
          exact fun om' σ' H' k r => h4 .non om' H' r.kp r.tr (by unfold ROk Hd; rfl) (outOk_of (Z := ⟨⟨K, mg⟩, om, H, vs.head?⟩) (mu_of r (New.same (Same.refl _))) rfl)
        | rs x e =>
          rw [hm] at h4
          exact fun c d om' σ' H' k r ex => h4 c d om' H' r.kp r.tr ex (outOk_of (Z := ⟨⟨K, mg⟩, om, H, vs.head?⟩) (mu_of r (New.same (Same.refl _))) rfl)
        | rt r e =>
          rw [hm] at h4
          intro v om' H' k tr' ro mu
          cases r with
          | bor l o => exact h4.elim
          | fz d => exact h4 v om' H' k tr' ro (outOk_of (Z := ⟨⟨K, mg⟩, om, H, vs.head?⟩) mu rfl)
          | tmp o => exact h4 v om' H' k tr' ro (outOk_of (Z := ⟨⟨K, mg⟩, om, H, vs.head?⟩) mu rfl)
    · exact h4.elim
end
end RC

set_option Elab.async false
set_option linter.all false
set_option maxRecDepth 100000
set_option maxHeartbeats 2000000
/-! R8: isinstance of built-in types. -/
namespace RC
open PySem PySem.Spec PyProof.Rows L2
def P.ty? : P → Option String
  | .fz .non => some "NoneType"
  | .fz (.bl _) => some "bool"
  | .fz (.int _) => some "int"
  | .fz (.str _) => some "str"
  | .fz (.lst _) => some "list"
  | .fz (.tup _) => some "tuple"
  | .bor _ (.lst _) => some "list"
  | _ => none
theorem POk.ty {g : Ga} {om : Om} {H : Hp} {x : P} {v : V} {t : String} (h : POk g om H x v) (e : x.ty? = some t) : TyX g.K H v (.type t) := by
  refine .base ?_
  cases x with
  | fz d =>
    cases d <;> simp only [P.ty?, Option.some.injEq, reduceCtorEq] at e <;> subst e <;> simp only [POk, Hd] at h
    · rw [h]; exact .non
    · rw [h]; exact .bl _
    · rw [h]; exact .int _
    · rw [h]; exact .str _
    · obtain ⟨a, xs, h1, h2, _⟩ := h; rw [h1]; exact .tup (hide_same _ _ h2)
    · obtain ⟨a, xs, h1, h2, _⟩ := h; rw [h1]; exact .lst (hide_same _ _ h2)
  | bor l o =>
    cases o <;> simp only [P.ty?, Option.some.injEq, reduceCtorEq] at e
    subst e
    obtain ⟨_, _, _, a, xs, h1, _, h2, _⟩ := h
    rw [h1]
    exact .lst h2
def kIsi (T : String) (x : P) : Option Bool := match x.ty? with
  | some t => kitB t T
  | none => none
section
variable {X : Cx} {Z : Zc} {W : WX} {e : Expr} {pos p p3 : Pos} {ma : Env → Res P}
theorem r_isi {T : String} {N : Str} (kx : Kx X Z W) (he : PE X e (tP Z W ma)) (hm : X.mg "isinstance" = none) (hT : X.mg N = none) (hb : bootBuiltins N = some (.type T)) (hg : Gl X "isinstance" := by rfl) (hgT : Gl X N := by rfl) (hn : N ≠ "__name__" := by decide) (hd : (N == ("__debug__" : Str)) = false := by decide)
    (hs : starEach (e :: [.Name N p3]) X.env = (false, eval e X.env) :: starEach [.Name N p3] X.env := by rfl) (hs2 : starEach (.Name N p3 :: []) X.env = (false, eval (.Name N p3) X.env) :: starEach [] X.env := by rfl) (hpl : (backTo pos (starEach [.Name N p3] X.env)).any (·.1) = false := by rfl) :
    PE X (.Call (.Name "isinstance" p) (e :: [.Name N p3]) [] pos) (tP Z W (mBl (one1 (kIsi T) ma))) :=
  (pe_callB call_isi hg hm (by decide +kernel) (pa_cons he (pa_cons (pe_bltn (v := .ty T) hgT hT hb rfl hn hd) pa_nil hs2) hs) (by decide) (by decide) hs hpl).pimp fun σ H Q ⟨om, env, rl, q⟩ => by
    refine one (T := fun v H' => rIsi X.K [v, .ty T] H' Q) rl (q_fz q) fun x v H' e rl' p1 z hk qz => ?_
    unfold kIsi at hk
    split at hk
    · rename_i t ht
      have h := p1.ty ht
      rw [kx.gK] at h
      exact ⟨v, .ty T, .type t, .type T, z, rfl, .ty T, h, kit_ty hk, qz H' (Same.refl _) _ (by unfold Hd; rfl)⟩
    · cases hk
end
end RC

set_option Elab.async false
set_option linter.all false
set_option maxRecDepth 100000
set_option maxHeartbeats 2000000
/-! R9: owned lists given back, laid cold; calls whose answers are new throughout. -/
namespace RC
open PySem PySem.Spec PyProof.Rows L2
section
variable {X : Cx} {Z : Zc} {W : WX} {e a b : Expr} {es : List Expr} {pos p p2 : Pos} {ma mb : Env → Res P} {mr : Env → Res (List P)} {om : Om} {env : Env} {σ : L2.St} {H : Hp}
/-- return name, the name's list owned -/
def sRetO (i : Nat) : Env → Fl := fun env => match env[i]? with
  | some (.ow o) => .rt (.tmp o) env
  | _ => .stuck
def unslot (i : Nat) : Lab → Lab
  | .slot j => if j = i then .tmp else .slot j
  | l => l
theorem relab_slot (i : Nat) : ∀ l : Lab, l.root ≠ .slot i → l.re (unslot i) = l
  | .sub l s, h => by unfold Lab.re; rw [relab_slot i l h]
  | .amb, h => rfl
  | .slot j, h => by show (if j = i then Lab.tmp else .slot j) = .slot j; rw [if_neg (fun z => h (by rw [z]; rfl))]
  | .tmp, h => rfl
theorem unslot_root (i : Nat) : ∀ l : Lab, l.root = .slot i → (l.re (unslot i)).root = .tmp
  | .sub l s, h => unslot_root i l h
  | .amb, h => by cases h
  | .slot j, h => by
    have : j = i := by cases h; rfl
    show (if j = i then Lab.tmp else .slot j).root = .tmp
    rw [if_pos this]; rfl
  | .tmp, h => by cases h
theorem s_retO {i : Nat} {x : Str} {p3 : Pos} (he : PE X (.Name x p3) (tVar i)) : PS X (.Return (some (.Name x p3)) pos) (tS Z W (sRetO i)) := (ps_ret he).pimp fun D σ H ⟨om, env, rl, q⟩ => by
  unfold sRetO at q
  split at q
  · rename_i o hi
    obtain ⟨v, h1, h2⟩ := rl.sl i _ hi
    refine ⟨v, h1, ?_⟩
    have hn : ∀ a, om a = none ↔ (om a).map (fun l => l.re (unslot i)) = none := fun a => by cases om a <;> simp
    have hh := hide_none (H := H) hn
    refine q v (fun a => (om a).map fun l => l.re (unslot i)) H (rl.kp.trans ⟨by rw [hh]; exact Same.refl _, fun a l h hr => ⟨?_, rfl⟩, fun a l h hr => ?_⟩) (fun a l h => ?_) ?_ (fun o' ho => ?_)
    · show (om a).map _ = some l
      rw [h]
      simp only [Option.map_some, Option.some.injEq]
      exact relab_slot i l (by rw [hr]; exact fun z => by cases z)
    · cases w : om a with
      | none => have h : (om a).map _ = some l := h; rw [w] at h; cases h
      | some l' =>
        have h : (om a).map (fun l => l.re (unslot i)) = some l := h
        rw [w] at h
        simp only [Option.map_some, Option.some.injEq] at h
        by_cases z : l'.root = .slot i
        · exfalso
          have := unslot_root i l' z
          rw [h, hr] at this
          cases this
        · rw [relab_slot i l' z] at h
          rw [h]
    · cases w : om a with
      | none => have h : (om a).map _ = some l := h; rw [w] at h; cases h
      | some l' => exact rl.tr a l' w
    · have := h2.relab (f := unslot i) (om' := fun a => (om a).map fun l => l.re (unslot i)) hh fun a l h _ => by show (om a).map _ = _; rw [h]; rfl
      have e : (Lab.slot i).re (unslot i) = .tmp := by show (if i = i then Lab.tmp else .slot i) = .tmp; rw [if_pos rfl]
      rw [e] at this
      exact this
    · obtain ⟨w, w1, w2⟩ := rl.sl 0 _ ho
      have w3 := rl.mu o' ho
      rw [w3] at w1
      have hi0 : i ≠ 0 := fun z => by subst z; rw [hi] at ho; cases ho
      refine ⟨w, by simpa using w1, w2.mono (r := .slot 0) (by rw [hh]; exact Same.refl _) (fun a l h hr => ⟨?_, rfl⟩) rfl⟩
      show (om a).map _ = some l
      rw [h]
      simp only [Option.map_some, Option.some.injEq]
      exact relab_slot i l (by rw [hr]; exact fun z => by cases z; exact hi0 rfl)
  · exact q.elim
/-- an owned list is laid cold from here on -/
def sCold (i : Nat) (m : Env → Fl) : Env → Fl := fun env => match env[i]? with
  | some (.ow o) => m (env.set i (.fz o.cold))
  | _ => .stuck
theorem ss_cold (i : Nat) {body : List Stmt} {m : Env → Fl} (h : PSs X body (tS Z W m)) : PSs X body (tS Z W (sCold i m)) := h.pimp fun D σ H ⟨om, env, rl, q⟩ => by
  unfold sCold at q
  split at q
  · rename_i o hi
    classical
    have hlt : i < env.length := (List.getElem?_eq_some_iff.mp hi).1
    obtain ⟨v, h1, h2⟩ := rl.sl i _ hi
    have nn : ∀ a l, (fun a => match om a with
      | some l => if l.root = .slot i then none else some l
      | none => none) a = some l → om a = some l ∧ l.root ≠ .slot i := fun a l z => by
      cases w : om a with
      | none => simp [w] at z
      | some l' =>
        simp only [w] at z
        split at z
        · cases z
        · rename_i hr
          cases z
          exact ⟨rfl, hr⟩
    have keepL : ∀ a l, om a = some l → l.root ≠ .slot i → (fun a => match om a with
      | some l => if l.root = .slot i then none else some l
      | none => none) a = some l := fun a l z hr => by simp only [z, if_neg hr]
    have st : Same (hide om H) (hide (fun a => match om a with
      | some l => if l.root = .slot i then none else some l
      | none => none) H) := fun a u z => by
      obtain ⟨z1, z2⟩ := hide_iff.mp z
      exact hide_iff.mpr ⟨by simp only [z1], z2⟩
    have k : Keep om H (fun a => match om a with
      | some l => if l.root = .slot i then none else some l
      | none => none) H := ⟨st, fun a l h hr => ⟨keepL a l h (by rw [hr]; exact fun z => by cases z), rfl⟩, fun a l h _ => (nn a l h).1⟩
    refine ⟨_, env.set i (.fz o.cold), ⟨fun a l h => rl.tr a l (nn a l h).1, fun a l h => rl.nt a l (nn a l h).1, rl.kp.trans k, by simp [rl.ln], fun j s hj => ?_, fun o' ho => ?_⟩, FLands.weak k q⟩
    · by_cases z : j = i
      · subst z
        rw [List.getElem?_set_self hlt] at hj
        cases hj
        exact ⟨v, h1, h2.cold (r := .slot j) st (fun a l h hr => ⟨by simp only [h, if_pos hr], rfl⟩) rfl⟩
      · rw [List.getElem?_set_ne (fun w => z w.symm)] at hj
        refine (rl.sl j s hj).mono st fun r hr a l h hl => ⟨keepL a l h ?_, rfl⟩
        rw [hl]
        rcases hr with rfl | rfl
        · exact fun z => by cases z
        · exact fun w => by cases w; exact z rfl
    · by_cases z : 0 = i
      · subst z
        rw [List.getElem?_set_self hlt] at ho
        cases ho
      · rw [List.getElem?_set_ne (fun w => z w.symm)] at ho
        exact rl.mu o' ho
  · exact q.elim

/-! ### answers that are new throughout -/
mutual
/-- data without lists, dicts, objects -/
def D.flat : D → Bool
  | .non => true
  | .bl _ => true
  | .int _ => true
  | .str _ => true
  | .tup ds => dsFlat ds
  | _ => false
def dsFlat : List D → Bool
  | [] => true
  | d :: ds => d.flat && dsFlat ds
end
def isTup : HO → Bool
  | .tup _ => true
  | _ => false
/-- the tuples of a heap alone -/
def tupsOf (H : Hp) : Hp := fun a => match H a with
  | some (.tup xs) => some (.tup xs)
  | _ => none
theorem tupsOf_tup {H : Hp} {a : Addr} {xs : List V} (h : H a = some (.tup xs)) : tupsOf H a = some (.tup xs) := by unfold tupsOf; rw [h]
mutual
theorem Hd.tups {g : Ga} {H : Hp} : ∀ {d : D} {v : V}, d.flat = true → Hd g H d v → Hd g (tupsOf H) d v
  | .non, v, _, h => by unfold Hd at h ⊢; exact h
  | .bl b, v, _, h => by unfold Hd at h ⊢; exact h
  | .int i, v, _, h => by unfold Hd at h ⊢; exact h
  | .str x, v, _, h => by unfold Hd at h ⊢; exact h
  | .tup ds, v, f, h => by
    unfold Hd at h ⊢
    obtain ⟨a, xs, h1, h2, h3⟩ := h
    exact ⟨a, xs, h1, tupsOf_tup h2, Hds.tups (by simpa [D.flat] using f) h3⟩
  | .lst ds, v, f, h => by simp [D.flat] at f
  | .dct ds, v, f, h => by simp [D.flat] at f
  | .obj n ds, v, f, h => by simp [D.flat] at f
  | .scr n, v, f, h => by simp [D.flat] at f
theorem Hds.tups {g : Ga} {H : Hp} : ∀ {ds : List D} {vs : List V}, dsFlat ds = true → Hds g H ds vs → Hds g (tupsOf H) ds vs
  | [], vs, _, h => by unfold Hds at h ⊢; exact h
  | d :: ds, vs, f, h => by
    unfold Hds at h
    obtain ⟨v, r, rfl, h1, h2⟩ := h
    simp only [dsFlat, Bool.and_eq_true] at f
    exact .cons (Hd.tups f.1 h1) (Hds.tups f.2 h2)
end
/-- what is in H' and was no list, dict, object of H -/
def newOf (H H' : Hp) : Hp := fun a => match H a with
  | none => H' a
  | some (.tup _) => H' a
  | some _ => none
def tN (Z : Zc) (W : WX) (m : Env → Res D) : TE := fun σ H Q => ∃ om env, Rel Z om σ H env ∧ Lands (m env) (fun d => ∀ v H', Same H H' → Hd Z.g (hide om (newOf H H')) d v → Q v H') (fun x => ∀ c d H', Same H H' → ExOk Z.g om H' x c d → W c d σ H')
def mRunN (r : CallR) : Res D := match r with
  | .ok (.fz d) _ => .ok d
  | .ok (.tmp o) _ => .ok o.cold
  | .rs x _ => .rs x
  | _ => .stuck
def flats : List P → Option (List D)
  | [] => some []
  | .fz d :: ps => if d.flat = true then (flats ps).map fun r => d :: r else none
  | _ :: _ => none
def mCallN (mf : List S → CallR) (mr : Env → Res (List P)) : Env → Res D := fun env => (mr env).bind fun ps => match flats ps with
  | some ds => mRunN (mf (ds.map S.fz))
  | none => .stuck
theorem flats_args {g : Ga} {om om2 : Om} {H : Hp} (sub : Same (tupsOf (hide om H)) (hide om2 H)) : ∀ {i : Nat} {ps : List P} {ds : List D} {vs : List V}, PsOk g om H ps vs → flats ps = some ds → ArgsOk g om2 H i (ds.map S.fz) vs
  | i, [], ds, vs, h, e => by cases e; exact h
  | i, .fz d :: ps, ds, vs, ⟨v, r, h1, h2, h3⟩, e => by
    unfold flats at e
    split at e
    · rename_i hf
      cases hp : flats ps with
      | none => rw [hp] at e; cases e
      | some ds' =>
        rw [hp] at e
        cases e
        exact ⟨v, r, h1, Hd.mono sub (Hd.tups hf h2), flats_args sub h3 hp⟩
    · cases e
  | i, .bor l o :: ps, ds, vs, h, e => by cases e
theorem n_call (kx : Kx X Z W) {mf : List S → CallR} {x : Str} {k : Nat} (F : Cl X.prog X.w Z.g X.base k x mf) (hr : Room k X.A) (ha : PA X (e :: es) (tA Z W mr)) (hg : Gl X x := by rfl) (hdb : (x == ("__debug__" : Str)) = false := by decide)
    (he : starEach (e :: es) X.env = (false, eval e X.env) :: starEach es X.env := by rfl) (hpl : (backTo pos (starEach es X.env)).any (·.1) = false := by rfl) : PE X (.Call (.Name x p) (e :: es) [] pos) (tN Z W (mCallN mf mr)) := by
  obtain ⟨f, fd, ps, F1, F2, F3, F4⟩ := F
  rw [kx.gK, kx.gm] at F1
  rw [kx.gm] at F2
  rw [kx.gK] at F3 F4
  refine (pe_callS F1 hr hg F2 F3 F4 kx.esc ha hdb he hpl).pimp fun σ H Q ⟨om, env, rl, q⟩ => ?_
  unfold mCallN at q
  refine ⟨om, env, rl, ?_⟩
  cases hm : mr env with
  | stuck => rw [hm] at q; exact q
  | rs x => rw [hm] at q; exact q
  | ok y =>
    rw [hm] at q
    simp only [Res.bind] at q
    intro vs H1 e1 po
    cases hf : flats y with
    | none => rw [hf] at q; exact q.elim
    | some ds =>
      rw [hf] at q
      simp only at q
      have rl1 := rl.grow e1
      -- all that is no visible tuple is hidden
      have f1 : ∀ a, om a = none → ∀ xs, H1 a = some (.tup xs) → (fun a => match H1 a with
        | none => none
        | some (.tup _) => (om a).map fun _ => Lab.amb
        | some _ => some Lab.amb) a = none := fun a h xs hx => by simp [hx, h]
      have hid : ∀ a l, (fun a => match H1 a with
        | none => none
        | some (.tup _) => (om a).map fun _ => Lab.amb
        | some _ => some Lab.amb) a = some l → l = .amb ∧ ∃ o, H1 a = some o := fun a l h => by
        cases hx : H1 a with
        | none => simp [hx] at h
        | some o =>
          refine ⟨?_, o, rfl⟩
          cases o <;> simp [hx] at h <;> first | exact h.symm | exact h.2.symm | (obtain ⟨_, h⟩ := h; exact h.symm) | exact h
      have vis : ∀ a o, H1 a = some o → om a ≠ none → (fun a => match H1 a with
        | none => none
        | some (.tup _) => (om a).map fun _ => Lab.amb
        | some _ => some Lab.amb) a = some .amb := fun a o hx hn => by
        cases w : om a with
        | none => exact absurd w hn
        | some l => cases o <;> simp [hx, w]
      have nonT : ∀ a o, H1 a = some o → isTup o = false → (fun a => match H1 a with
        | none => none
        | some (.tup _) => (om a).map fun _ => Lab.amb
        | some _ => some Lab.amb) a = some .amb := fun a o hx ht => by
        cases o <;> simp [hx, isTup] at ht ⊢
      refine ⟨_, ds.map S.fz, fun a l h => (hid a l h).2, (fun a l h => by rw [(hid a l h).1]; exact fun z => nomatch z), flats_args (om2 := fun a => match H1 a with
        | none => none
        | some (.tup _) => (om a).map fun _ => Lab.amb
        | some _ => some Lab.amb) (fun a u z => ?_) po hf, ?_⟩
      · unfold tupsOf at z
        cases w : hide om H1 a with
        | none => rw [w] at z; cases z
        | some o =>
          rw [w] at z
          obtain ⟨w1, w2⟩ := hide_iff.mp w
          cases o <;> cases z
          exact hide_iff.mpr ⟨f1 a w1 _ w2, w2⟩
      · have same : ∀ om' H', Keep (fun a => match H1 a with
          | none => none
          | some (.tup _) => (om a).map fun _ => Lab.amb
          | some _ => some Lab.amb) H1 om' H' → Same H1 H' := fun om' H' k a o hx => by
          cases w : (fun a => match H1 a with
            | none => none
            | some (.tup _) => (om a).map fun _ => Lab.amb
            | some _ => some Lab.amb) a with
          | none => exact hide_same _ _ (k.st a o (hide_iff.mpr ⟨w, hx⟩))
          | some l => rw [(k.am a l w (by rw [(hid a l w).1]; rfl)).2]; exact hx
        have sub : ∀ om' H', Keep (fun a => match H1 a with
          | none => none
          | some (.tup _) => (om a).map fun _ => Lab.amb
          | some _ => some Lab.amb) H1 om' H' → ∀ a u, om' a = none → H' a = some u → om a = none ∧ (∀ o, H1 a = some o → isTup o = true) := fun om' H' k a u z1 z2 => by
          refine ⟨?_, fun o ho => ?_⟩
          · cases w : om a with
            | none => rfl
            | some l =>
              obtain ⟨o, ho⟩ := rl1.tr a l w
              rw [(k.am a _ (vis a o ho (by rw [w]; exact fun z => by cases z)) rfl).1] at z1
              cases z1
          · cases ht : isTup o with
            | true => rfl
            | false =>
              rw [(k.am a _ (nonT a o ho ht) rfl).1] at z1
              cases z1
        cases hm2 : mf (ds.map S.fz) with
        | stuck => rw [hm2] at q; exact q
        | rs x out =>
          rw [hm2] at q
          intro c d om' H' k tr' ex _
          refine q c d H' (e1.trans (same om' H' k)) ?_
          obtain ⟨C, x1, x2, x3⟩ := ex
          refine ⟨C, x1, x2, ?_⟩
          cases hf : x.fs with
          | none => rw [hf] at x3; exact x3
          | some fs =>
            rw [hf] at x3
            obtain ⟨dd, ws, y1, y2, y3⟩ := x3
            refine ⟨dd, ws, y1, y2, Hfs.mono (fun a u w => ?_) y3⟩
            obtain ⟨w1, w2⟩ := hide_iff.mp w
            exact hide_iff.mpr ⟨(sub om' H' k a u w1 w2).1, w2⟩
        | ok r out =>
          rw [hm2] at q
          intro v om' H' k tr' ro _
          have toN : Same (hide om' H') (hide om (newOf H H')) := fun a u w => by
            obtain ⟨w1, w2⟩ := hide_iff.mp w
            obtain ⟨s1, s2⟩ := sub om' H' k a u w1 w2
            refine hide_iff.mpr ⟨s1, ?_⟩
            unfold newOf
            cases hx : H a with
            | none => exact w2
            | some o =>
              have := s2 o (e1 a o hx)
              cases o <;> simp [isTup] at this
              exact w2
          cases r with
          | bor l o => exact q.elim
          | fz d => exact q v H' (e1.trans (same om' H' k)) (Hd.mono toN ro)
          | tmp o =>
            refine q v H' (e1.trans (same om' H' k)) ?_
            -- what is temporarily owned is new
            refine Own.cold (r := .tmp) toN (fun a l h hr => ?_) rfl ro
            have hnew : H1 a = none := by
              cases hx : H1 a with
              | none => rfl
              | some u =>
                exfalso
                cases w : (fun a => match H1 a with
                  | none => none
                  | some (.tup _) => (om a).map fun _ => Lab.amb
                  | some _ => some Lab.amb) a with
                | none => rw [(hide_iff.mp (k.st a u (hide_iff.mpr ⟨w, hx⟩))).1] at h; cases h
                | some l' =>
                  have z := (hid a l' w).1
                  subst z
                  rw [(k.am a _ w rfl).1] at h
                  cases h
                  cases hr
            have h0 : H a = none := e1.free hnew
            refine ⟨?_, by unfold newOf; rw [h0]⟩
            cases w : om a with
            | none => rfl
            | some l' => obtain ⟨u, z⟩ := rl.tr a l' w; rw [h0] at z; cases z
def kIxN (d : D) (y : P) : Option D := match d, y.int? with
  | .lst ds, some i => L2.atI ds i
  | _, _ => none
def mIxN (mn : Env → Res D) (mb : Env → Res P) : Env → Res D := fun env => (mn env).bind fun x => (mb env).bind fun y => .of (kIxN x y)
theorem n_ix {mn : Env → Res D} (ha : PE X a (tN Z W mn)) (hb : PE X b (tP Z W mb)) (hs : PlainIx b := by exact fun _ _ => rfl) : PE X (.Subscript a b pos) (tN Z W (mIxN mn mb)) :=
  (pe_ix ix_list ha hb hs).pimp fun σ H Q ⟨om, env, rl, q⟩ => by
    unfold mIxN at q
    refine ⟨om, env, rl, ?_⟩
    cases hma : mn env with
    | stuck => rw [hma] at q; exact q
    | rs x => rw [hma] at q; exact q
    | ok x =>
      rw [hma] at q
      simp only [Res.bind] at q
      intro v H1 e1 hd
      refine ⟨om, env, rl.grow e1, ?_⟩
      cases hmb : mb env with
      | stuck => rw [hmb] at q; exact q
      | rs x => rw [hmb] at q; exact fun c d H' e2 => q c d H' (e1.trans e2)
      | ok y =>
        rw [hmb] at q
        simp only [Res.bind] at q
        intro u H2 e2 pu
        cases hk : kIxN x y with
        | none => rw [hk] at q; exact q.elim
        | some z =>
          rw [hk] at q
          unfold kIxN at hk
          split at hk
          · rename_i ds i hi
            simp only [Hd] at hd
            obtain ⟨p, xs, h1, h2, h3⟩ := hd
            obtain ⟨w, h4, h5⟩ := h3.atI hk
            have n12 : Same (hide om (newOf H H1)) (hide om (newOf H H2)) := fun a o w => by
              obtain ⟨w1, w2⟩ := hide_iff.mp w
              refine hide_iff.mpr ⟨w1, ?_⟩
              unfold newOf at w2 ⊢
              cases hx : H a with
              | none => rw [hx] at w2; exact e2 _ _ w2
              | some o' => rw [hx] at w2; cases o' <;> first | exact e2 _ _ w2 | cases w2
            have hp : H1 p = some (.lst xs) := by
              obtain ⟨_, w2⟩ := hide_iff.mp h2
              unfold newOf at w2
              cases hx : H p with
              | none => rw [hx] at w2; exact w2
              | some o' => rw [hx] at w2; cases o' <;> first | exact w2 | cases w2
            exact ⟨p, xs, i, w, h1, pu.int hi, SqL.of (e2 _ _ hp), h4, q w H2 (e1.trans e2) (h5.mono n12)⟩
          · cases hk
/-- a new list of scalars is one's own -/
def scal (d : D) : Bool := match d with
  | .non => true
  | .bl _ => true
  | .int _ => true
  | .str _ => true
  | _ => false
theorem Hds.scal {g : Ga} {H H' : Hp} : ∀ {ds : List D} {vs : List V}, ds.all RC.scal = true → Hds g H ds vs → Hds g H' ds vs
  | [], vs, _, h => by unfold Hds at h ⊢; exact h
  | d :: ds, vs, f, h => by
    unfold Hds at h
    obtain ⟨v, r, rfl, h1, h2⟩ := h
    simp only [List.all_cons, Bool.and_eq_true] at f
    refine .cons ?_ (Hds.scal f.2 h2)
    cases d <;> simp [RC.scal] at f <;> (unfold Hd at h1 ⊢; exact h1)
def mOwnN (mn : Env → Res D) : Env → Res R := fun env => (mn env).bind fun d => match d with
  | .lst ds => if ds.all scal = true then .ok (.tmp (.lst ds)) else .stuck
  | _ => .stuck
theorem n_own {mn : Env → Res D} (h : PE X e (tN Z W mn)) : PE X e (tO Z W (mOwnN mn)) := h.pimp fun σ H Q ⟨om, env, rl, q⟩ => by
  unfold mOwnN at q
  refine ⟨om, env, rl, ?_⟩
  cases hma : mn env with
  | stuck => rw [hma] at q; exact q
  | rs x => rw [hma] at q; exact q
  | ok d =>
    rw [hma] at q
    simp only [Res.bind] at q
    intro v H' e hd
    cases d <;> try exact q.elim
    rename_i ds
    simp only at q
    split at q
    · rename_i hs
      simp only [Hd] at hd
      obtain ⟨p, xs, h1, h2, h3⟩ := hd
      obtain ⟨w1, w2⟩ := hide_iff.mp h2
      have hp : H' p = some (.lst xs) ∧ H p = none := by
        unfold newOf at w2
        cases hx : H p with
        | none => rw [hx] at w2; exact ⟨w2, rfl⟩
        | some o' =>
          rw [hx] at w2
          cases o' <;> first
            | cases w2
            | (have := e _ _ hx; have w3 : H' p = some (.lst xs) := w2; rw [w3] at this; cases this)
      subst h1
      refine q (.ref p) (lab om p .tmp) H' ⟨e, fun a l h => ?_, fun a l h => ?_⟩ ⟨p, xs, rfl, lab_same, hp.1, h3.scal hs⟩
      · rw [lab_ne (fun z => by subst z; obtain ⟨u, y⟩ := rl.tr _ l h; rw [hp.2] at y; cases y)]; exact h
      · by_cases z : a = p
        · subst z; rw [lab_same] at h; cases h; exact .inr ⟨hp.2, rfl, _, hp.1⟩
        · rw [lab_ne z] at h; exact .inl h
    · exact q.elim
end
end RC

set_option Elab.async false
set_option linter.all false
set_option maxRecDepth 100000
set_option maxHeartbeats 2000000
/-! R10: fields of an owned object stored. -/
namespace RC
open PySem PySem.Spec PyProof.Rows L2
def putFd (f : Str) (o : F) : List (Str × F) → List (Str × F)
  | [] => [(f, o)]
  | (g, x) :: r => if g = f then (g, o) :: r else (g, x) :: putFd f o r
section
variable {g : Ga} {om om' : Om} {H H' : Hp} {l : Lab}
theorem OwnF.monoL (e : Same (hide om H) (hide om' H')) (k : ∀ p, om p = some l → om' p = some l ∧ H' p = H p) : ∀ {o : F} {v : V}, OwnF g om H l o v → OwnF g om' H' l o v
  | .fz d, v, h => Hd.mono e h
  | .lst ds, v, ⟨p, xs, h1, h2, h3, h4⟩ => ⟨p, xs, h1, (k _ h2).1, by rw [(k _ h2).2]; exact h3, h4.mono e⟩
  | .dct ds, v, ⟨p, xs, h1, h2, h3, h4⟩ => ⟨p, xs, h1, (k _ h2).1, by rw [(k _ h2).2]; exact h3, h4.mono e⟩
theorem OwnFs.monoS (e : Same (hide om H) (hide om' H')) (k : ∀ p f, om p = some (.sub l f) → om' p = some (.sub l f) ∧ H' p = H p) : ∀ {fs : List (Str × F)} {ws : List (Str × V)}, OwnFs g om H l fs ws → OwnFs g om' H' l fs ws
  | [], ws, h => h
  | (f, o) :: fs, ws, ⟨v, vs, h1, h2, h3⟩ => ⟨v, vs, h1, OwnF.monoL e (fun p => k p f) h2, OwnFs.monoS e k h3⟩
theorem OwnFs.put {f : Str} {o : F} {v : V} (hv : OwnF g om H (.sub l f) o v) : ∀ {fs : List (Str × F)} {ws : List (Str × V)}, OwnFs g om H l fs ws → OwnFs g om H l (putFd f o fs) (putF f v ws)
  | [], ws, h => by
    rw [show ws = [] from h]
    exact ⟨v, [], rfl, hv, rfl⟩
  | (k, x) :: fs, ws, ⟨u, vs, h1, h2, h3⟩ => by
    subst h1
    unfold putFd putF
    by_cases hk : k = f
    · subst hk
      rw [if_pos rfl, if_pos rfl]
      exact ⟨v, vs, rfl, hv, h3⟩
    · rw [if_neg hk, if_neg hk]
      exact ⟨u, _, rfl, h2, OwnFs.put hv h3⟩
theorem OwnFs.len : ∀ {fs : List (Str × F)} {ws : List (Str × V)}, OwnFs g om H l fs ws → ws.length = fs.length
  | [], ws, h => by rw [show ws = [] from h]; rfl
  | (k, x) :: fs, ws, ⟨u, vs, h1, h2, h3⟩ => by subst h1; simp [OwnFs.len h3]
end
section
variable {X : Cx} {Z : Zc} {W : WX} {e : Expr} {pos p p' : Pos} {ma : Env → Res P} {mo : Env → Res R} {om : Om} {env : Env} {σ : L2.St} {H : Hp}
/-- the object of slot i changed to another -/
theorem Rel.objMut (rl : Rel Z om σ H env) {i : Nat} {o o' : O} {q : Addr} {u : HO} (h : env[i]? = some (.mu o)) (hs : σ[i]? = some (some (.ref q))) (hq : om q = some (.slot i)) (hd : Own Z.g om (upd H q u) (.slot i) o' (.ref q)) :
    Rel Z om σ (upd H q u) (env.set i (.mu o')) ∧ Keep om H om (upd H q u) := by
  have hl : i < env.length := (List.getElem?_eq_some_iff.mp h).1
  have k : Keep om H om (upd H q u) := keep_mut hq (fun z => by cases z)
  refine ⟨⟨fun a l h => ?_, rl.nt, rl.kp.trans k, by simp [rl.ln], fun j s hj => ?_, fun o ho => ?_⟩, k⟩
  · by_cases z : a = q
    · subst z; exact ⟨_, upd_same⟩
    · rw [upd_ne z]; exact rl.tr a l h
  · by_cases z : j = i
    · subst z
      rw [List.getElem?_set_self hl] at hj
      cases hj
      exact ⟨_, hs, hd⟩
    · rw [List.getElem?_set_ne (fun w => z w.symm)] at hj
      refine (rl.sl j s hj).mono k.st fun r hr a l h' hl' => ⟨h', ?_⟩
      rw [upd_ne]
      intro w
      subst w
      rw [hq] at h'
      cases h'
      rcases hr with hr | hr
      · rw [hr] at hl'; cases hl'
      · rw [hr] at hl'; cases hl'; exact z rfl
  · by_cases z : i = 0
    · subst z
      exact rl.mu _ h
    · rw [List.getElem?_set_ne z] at ho
      exact rl.mu o ho
def sAtt (n f : Str) (i : Nat) (ma : Env → Res P) : Env → Fl := fun env => match env[i]? with
  | some (.mu (.obj n' fs)) => if n' = n ∧ fs.length < 1000 then (match ma env with
    | .ok (.fz d) => .nx (env.set i (.mu (.obj n (putFd f (.fz d) fs))))
    | .rs x => .rs x env
    | _ => .stuck) else .stuck
  | _ => .stuck
theorem s_att {n f x : Str} {i : Nat} {C : Addr} (kx : Kx X Z W) (hC : Z.g.mg n = some (.ref C)) (c : Cls Z.g.K C) (na : NoAttr Z.g.K C f) (hx : PE X (.Name x p) (tVar i)) (he : PE X e (tP Z W ma))
    (hs : swapsWith e (some (.Attribute (.Name x p) f p')) pos.line X.env = pure false := by rfl) : PS X (.Assign [.Attribute (.Name x p) f p'] e pos) (tS Z W (sAtt n f i ma)) := (ps_fld hx he hs).pimp fun D σ H ⟨om, env, rl, q⟩ => by
  unfold sAtt at q
  rw [kx.gK] at c na
  cases hi : env[i]? with
  | none => rw [hi] at q; exact q.elim
  | some s =>
    rw [hi] at q
    cases s with
    | un => exact q.elim
    | fz d => exact q.elim
    | rd d => exact q.elim
    | ow d => exact q.elim
    | mu o =>
      cases o with
      | lst ds => exact q.elim
      | dct ds => exact q.elim
      | obj n' fs =>
        simp only at q
        split at q
        · rename_i hc
          obtain ⟨hn, hl⟩ := hc
          subst hn
          refine ⟨om, env, rl, ?_⟩
          cases ha : ma env with
          | stuck => rw [ha] at q; exact q
          | rs x => rw [ha] at q; exact fun c d H' e ex => q c d om σ H' (keep_grow rl.tr e) (rl.grow e) ex
          | ok pp =>
            rw [ha] at q
            intro y H1 e1 po
            cases pp with
            | bor l o => exact q.elim
            | fz d =>
              have rl1 := rl.grow e1
              obtain ⟨v, h1, a, C', dx, ws, h2, h3, h4, h5, h6⟩ := rl1.sl i _ hi
              subst h2
              rw [hC] at h4
              cases h4
              refine ⟨.ref a, h1, a, C, dx, ws, rfl, h5, c, na, by rw [h6.len]; exact hl, ?_⟩
              have hk : hide om (upd H1 a (.ins C dx (putF f y ws))) = hide om H1 := hide_mut h3
              have h7 : OwnFs Z.g om (upd H1 a (.ins C dx (putF f y ws))) (.slot i) fs ws := h6.monoS (by rw [hk]; exact Same.refl _) fun p g hp => ⟨hp, by
                rw [upd_ne]
                intro w; subst w
                rw [h3] at hp; cases hp⟩
              have h8 : OwnF Z.g om (upd H1 a (.ins C dx (putF f y ws))) (.sub (.slot i) f) (.fz d) y := by
                show Hd Z.g (hide om _) d y
                rw [hk]; exact po
              obtain ⟨r1, k1⟩ := rl1.objMut (o' := .obj n' (putFd f (.fz d) fs)) hi h1 h3 (u := .ins C dx (putF f y ws)) ⟨a, C, dx, _, rfl, h3, hC, upd_same, h7.put h8⟩
              exact q om σ _ ((keep_grow rl.tr e1).trans k1) r1
        · exact q.elim
end
end RC

set_option Elab.async false
set_option linter.all false
set_option maxRecDepth 100000
set_option maxHeartbeats 1000000
/-! A1: evaluating mirrors: equations for simp, loops by invariants. -/
namespace RC
open PySem PySem.Spec PyProof.Rows L2

@[simp] theorem bind_ok {α β : Type} (a : α) (f : α → Res β) : (Res.ok a).bind f = f a := id rfl
@[simp] theorem bind_rs {α β : Type} (x : Exc) (f : α → Res β) : (Res.rs x : Res α).bind f = .rs x := id rfl
@[simp] theorem bind_st {α β : Type} (f : α → Res β) : (Res.stuck : Res α).bind f = .stuck := id rfl
@[simp] theorem map_ok {α β : Type} (a : α) (f : α → β) : (Res.ok a).map f = .ok (f a) := id rfl
@[simp] theorem map_rs {α β : Type} (x : Exc) (f : α → β) : (Res.rs x : Res α).map f = .rs x := id rfl
@[simp] theorem of_some {α : Type} (a : α) : Res.of (some a) = .ok a := id rfl
@[simp] theorem of_none {α : Type} : Res.of (none : Option α) = .stuck := id rfl
@[simp] theorem op_fz (d : D) : R.op (.fz d) = .fz d := id rfl
@[simp] theorem op_tmp (o : O) : R.op (.tmp o) = .fz o.cold := id rfl
@[simp] theorem op_bor (l : Lab) (o : O) : R.op (.bor l o) = .bor l o := id rfl
@[simp] theorem r_fz (d : D) : P.r (.fz d) = .fz d := id rfl
@[simp] theorem r_bor (l : Lab) (o : O) : P.r (.bor l o) = .bor l o := id rfl
@[simp] theorem s_fz (d : D) : P.s (.fz d) = .fz d := id rfl
@[simp] theorem s_bor (l : Lab) (o : O) : P.s (.bor l o) = .rd o := id rfl
@[simp] theorem cold_lst (ds : List D) : O.cold (.lst ds) = .lst ds := id rfl
@[simp] theorem mC_eq (d : D) (env : Env) : mC d env = .ok (.fz d) := id rfl
@[simp] theorem mOp_eq (m : Env → Res R) (env : Env) : mOp m env = (m env).map R.op := id rfl
@[simp] theorem mUp_eq (m : Env → Res P) (env : Env) : mUp m env = (m env).map P.r := id rfl
@[simp] theorem mNil_eq (env : Env) : mNil env = .ok [] := id rfl
@[simp] theorem mCons_eq (a : Env → Res P) (r : Env → Res (List P)) (env : Env) : mCons a r env = (a env).bind fun x => (r env).map fun r => x :: r := id rfl
@[simp] theorem m2_eq {α : Type} (k : P → P → Option α) (a b : Env → Res P) (env : Env) : m2 k a b env = (a env).bind fun x => (b env).bind fun y => .of (k x y) := id rfl
@[simp] theorem one1_eq {α : Type} (k : P → Option α) (a : Env → Res P) (env : Env) : one1 k a env = (a env).bind fun x => .of (k x) := id rfl
@[simp] theorem oneA_eq {α : Type} (k : List P → Option α) (a : Env → Res (List P)) (env : Env) : oneA k a env = (a env).bind fun x => .of (k x) := id rfl
@[simp] theorem mI_eq (f : Int → Int → Option Int) (a b : Env → Res P) (env : Env) : mI f a b env = (m2 (kI f) a b env).map fun z => .fz (.int z) := id rfl
@[simp] theorem mNeg_eq (a : Env → Res P) (env : Env) : mNeg a env = (one1 (kI1 iNeg) a env).map fun z => .fz (.int z) := id rfl
@[simp] theorem mBl_eq (m : Env → Res Bool) (env : Env) : mBl m env = (m env).map fun z => .fz (.bl z) := id rfl
@[simp] theorem mIx_eq (a b : Env → Res P) (env : Env) : mIx a b env = (m2 kIx a b env).map fun z => .fz z := id rfl
@[simp] theorem mLen_eq (a : Env → Res (List P)) (env : Env) : mLen a env = (oneA kLen a env).map fun z => .fz (.int z) := id rfl
@[simp] theorem mSum_eq (a : Env → Res (List P)) (env : Env) : mSum a env = (oneA kSum a env).map fun z => .fz (.int z) := id rfl
@[simp] theorem mMin2_eq (a : Env → Res (List P)) (env : Env) : mMin2 a env = (oneA kMin2 a env).map fun z => .fz (.int z) := id rfl
@[simp] theorem mMax2_eq (a : Env → Res (List P)) (env : Env) : mMax2 a env = (oneA kMax2 a env).map fun z => .fz (.int z) := id rfl
@[simp] theorem mInt_eq (a : Env → Res (List P)) (env : Env) : mInt a env = (oneA kInt a env).map fun z => .fz (.int z) := id rfl
@[simp] theorem mListc_eq (a : Env → Res (List P)) (env : Env) : mListc a env = (oneA kListc a env).map fun z => .tmp (.lst z) := id rfl
@[simp] theorem mTupc_eq (a : Env → Res (List P)) (env : Env) : mTupc a env = (oneA kTupc a env).map fun z => .fz (.tup z) := id rfl
@[simp] theorem mLst_eq (a : Env → Res (List P)) (env : Env) : mLst a env = (oneA kDisp a env).map fun z => .tmp (.lst z) := id rfl
@[simp] theorem mTup_eq (a : Env → Res (List P)) (env : Env) : mTup a env = (oneA kDisp a env).map fun z => .fz (.tup z) := id rfl
@[simp] theorem mCat_eq (a b : Env → Res P) (env : Env) : mCat a b env = (m2 kCat a b env).map fun z => .tmp (.lst z) := id rfl
@[simp] theorem mRep_eq (a b : Env → Res P) (env : Env) : mRep a b env = (m2 kRep a b env).map fun z => .tmp (.lst z) := id rfl
@[simp] theorem mCatT_eq (a b : Env → Res P) (env : Env) : mCatT a b env = (m2 kCatT a b env).map fun z => .fz (.tup z) := id rfl
@[simp] theorem mCall_eq (f : List S → CallR) (a : Env → Res (List P)) (env : Env) : mCall f a env = (a env).bind fun ps => mRun (f (ps.map P.s)) := id rfl
@[simp] theorem mRun_fz (d : D) (o : Option O) : mRun (.ok (.fz d) o) = .ok (.fz d) := id rfl
@[simp] theorem mRun_tmp (d : O) (o : Option O) : mRun (.ok (.tmp d) o) = .ok (.tmp d) := id rfl
@[simp] theorem mRun_rs (x : Exc) (o : Option O) : mRun (.rs x o) = .rs x := id rfl
@[simp] theorem bAnd_eq (a b : Env → Res Bool) (env : Env) : bAnd a b env = (a env).bind fun x => if x = true then b env else .ok false := id rfl
@[simp] theorem bOr_eq (a b : Env → Res Bool) (env : Env) : bOr a b env = (a env).bind fun x => if x = true then .ok true else b env := id rfl
@[simp] theorem bNot_eq (a : Env → Res Bool) (env : Env) : bNot a env = (a env).map Bool.not := id rfl
@[simp] theorem mAnd_eq (a b : Env → Res P) (env : Env) : mAnd a b env = (one1 P.bl? a env).bind fun x => if x = true then b env else .ok (.fz (.bl false)) := id rfl
@[simp] theorem mOr_eq (a b : Env → Res P) (env : Env) : mOr a b env = (one1 P.bl? a env).bind fun x => if x = true then .ok (.fz (.bl true)) else b env := id rfl
@[simp] theorem mNot_eq (a : Env → Res P) (env : Env) : mNot a env = (one1 P.bl? a env).map fun z => .fz (.bl (!z)) := id rfl
@[simp] theorem mIf_eq (t : Env → Res Bool) (a b : Env → Res P) (env : Env) : mIf t a b env = (t env).bind fun x => if x = true then a env else b env := id rfl
@[simp] theorem tYesB_eq (env : Env) : tYesB env = .ok true := id rfl
@[simp] theorem mNoP_eq (env : Env) : mNoP env = .ok none := id rfl
@[simp] theorem mPart_eq (a : Env → Res P) (env : Env) : mPart a env = (a env).bind fun x => .of (x.int?.map some) := id rfl
@[simp] theorem m3_eq {α : Type} (k : P → Option Int → Option Int → Option α) (a : Env → Res P) (l h : Env → Res (Option Int)) (env : Env) : m3 k a l h env = (a env).bind fun x => (l env).bind fun lo => (h env).bind fun hi => .of (k x lo hi) := id rfl
@[simp] theorem mSlL_eq (a : Env → Res P) (l h : Env → Res (Option Int)) (env : Env) : mSlL a l h env = (m3 kSlL a l h env).map fun z => .tmp (.lst z) := id rfl
@[simp] theorem mSlT_eq (a : Env → Res P) (l h : Env → Res (Option Int)) (env : Env) : mSlT a l h env = (m3 kSlT a l h env).map fun z => .fz (.tup z) := id rfl
/-! names -/
def varK (i : Nat) (s : Option S) : Res P := match s with
  | some (.fz d) => .ok (.fz d)
  | some (.rd o) => .ok (.bor .amb o)
  | some (.ow o) => .ok (.bor (.slot i) o)
  | some (.mu o) => .ok (.bor (.slot i) o)
  | _ => .stuck
@[simp] theorem mVar_eq (i : Nat) (env : Env) : mVar i env = varK i env[i]? := id rfl
@[simp] theorem varK_fz (i : Nat) (d : D) : varK i (some (.fz d)) = .ok (.fz d) := id rfl
@[simp] theorem varK_rd (i : Nat) (d : O) : varK i (some (.rd d)) = .ok (.bor .amb d) := id rfl
@[simp] theorem varK_ow (i : Nat) (d : O) : varK i (some (.ow d)) = .ok (.bor (.slot i) d) := id rfl
@[simp] theorem varK_mu (i : Nat) (d : O) : varK i (some (.mu d)) = .ok (.bor (.slot i) d) := id rfl
def S.free : S → Bool
  | .mu _ => false
  | _ => true
@[simp] theorem S.free_fz (d : D) : S.free (.fz d) = true := id rfl
@[simp] theorem S.free_un : S.free .un = true := id rfl
@[simp] theorem S.free_rd (o : O) : S.free (.rd o) = true := id rfl
@[simp] theorem S.free_ow (o : O) : S.free (.ow o) = true := id rfl
def freeK (s : Option S) : Bool := match s with
  | some s => s.free
  | none => false
@[simp] theorem freeK_some (s : S) : freeK (some s) = s.free := id rfl
@[simp] theorem free?_eq (env : Env) (i : Nat) : free? env i = freeK env[i]? := by
  unfold free? freeK
  cases env[i]? with
  | none => rfl
  | some s => cases s <;> rfl
/-! operands -/
@[simp] theorem int?_fz (i : Int) : P.int? (.fz (.int i)) = some i := id rfl
@[simp] theorem bl?_fz (i : Bool) : P.bl? (.fz (.bl i)) = some i := id rfl
@[simp] theorem str?_fz (i : Str) : P.str? (.fz (.str i)) = some i := id rfl
@[simp] theorem lst?_fz (ds : List D) : P.lst? (.fz (.lst ds)) = some ds := id rfl
@[simp] theorem lst?_bor (l : Lab) (ds : List D) : P.lst? (.bor l (.lst ds)) = some ds := id rfl
@[simp] theorem tup?_fz (ds : List D) : P.tup? (.fz (.tup ds)) = some ds := id rfl
@[simp] theorem d?_fz (d : D) : P.d? (.fz d) = some d := id rfl
@[simp] theorem seq?_lst (ds : List D) : P.seq? (.fz (.lst ds)) = some ds := id rfl
@[simp] theorem seq?_tup (ds : List D) : P.seq? (.fz (.tup ds)) = some ds := id rfl
@[simp] theorem seq?_bor (l : Lab) (ds : List D) : P.seq? (.bor l (.lst ds)) = some ds := id rfl
@[simp] theorem it?_lst (ds : List D) : P.it? (.fz (.lst ds)) = some ds := id rfl
@[simp] theorem it?_amb (ds : List D) : P.it? (.bor .amb (.lst ds)) = some ds := id rfl
@[simp] theorem kI_int {α : Type} (f : Int → Int → Option α) (i j : Int) : kI f (.fz (.int i)) (.fz (.int j)) = f i j := id rfl
@[simp] theorem kI1_int {α : Type} (f : Int → Option α) (i : Int) : kI1 f (.fz (.int i)) = f i := id rfl
@[simp] theorem kLt_int (i j : Int) : kLt (.fz (.int i)) (.fz (.int j)) = some (decide (i < j)) := id rfl
@[simp] theorem kLe_int (i j : Int) : kLe (.fz (.int i)) (.fz (.int j)) = some (decide (i ≤ j)) := id rfl
@[simp] theorem kGt_int (i j : Int) : kGt (.fz (.int i)) (.fz (.int j)) = some (decide (j < i)) := id rfl
@[simp] theorem kGe_int (i j : Int) : kGe (.fz (.int i)) (.fz (.int j)) = some (decide (j ≤ i)) := id rfl
@[simp] theorem iAdd_eq (i j : Int) : iAdd i j = some (i + j) := id rfl
@[simp] theorem iSub_eq (i j : Int) : iSub i j = some (i - j) := id rfl
@[simp] theorem iNeg_eq (i : Int) : iNeg i = some (-i) := id rfl
theorem kRng1_eq (p : P) : kRng1 [p] = (p.int?).bind fun j => if -4611686018427387904 ≤ j ∧ j < 4611686018427387904 then some ((0 : Int), j.toNat) else none := by
  cases h : p.int? with
  | none => simp [kRng1, h]
  | some j => simp [kRng1, h]
theorem iMul_l {i j : Int} (h1 : -18446744073709551616 < i) (h2 : i < 18446744073709551616) : iMul i j = some (i * j) := if_pos (.inl ⟨h1, h2⟩)
theorem iMul_r {i j : Int} (h1 : -18446744073709551616 < j) (h2 : j < 18446744073709551616) : iMul i j = some (i * j) := if_pos (.inr ⟨h1, h2⟩)
theorem iMod_pos {i j : Int} (h : 0 < j) : iMod i j = some (i % j) := if_pos h
theorem iDiv_pos {i j : Int} (h : 0 < j) (h2 : j < 1073741824) : iDiv i j = some (i / j) := if_pos ⟨h, h2⟩
theorem kEq_int (i j : Int) : kEq (.fz (.int i)) (.fz (.int j)) = some (i == j) := rfl
theorem kNe_int (i j : Int) : kNe (.fz (.int i)) (.fz (.int j)) = some (!(i == j)) := rfl

/-! statements -/
def thenD (f : Fl) (b : Env → Fl) : Fl := match f with
  | .nx e => b e
  | f => f
@[simp] theorem sSeq_eq (a b : Env → Fl) (env : Env) : sSeq a b env = thenD (a env) b := id rfl
@[simp] theorem thenD_nx (e : Env) (b : Env → Fl) : thenD (.nx e) b = b e := id rfl
@[simp] theorem thenD_rt (r : R) (e : Env) (b : Env → Fl) : thenD (.rt r e) b = .rt r e := id rfl
@[simp] theorem thenD_rs (r : Exc) (e : Env) (b : Env → Fl) : thenD (.rs r e) b = .rs r e := id rfl
@[simp] theorem thenD_bk (e : Env) (b : Env → Fl) : thenD (.bk e) b = .bk e := id rfl
@[simp] theorem thenD_ct (e : Env) (b : Env → Fl) : thenD (.ct e) b = .ct e := id rfl
@[simp] theorem sNil_eq (e : Env) : sNil e = .nx e := id rfl
def ifD (r : Res Bool) (a b : Env → Fl) (env : Env) : Fl := match r with
  | .ok x => if x = true then a env else b env
  | .rs x => .rs x env
  | .stuck => .stuck
@[simp] theorem sIf_eq (t : Env → Res Bool) (a b : Env → Fl) (env : Env) : sIf t a b env = ifD (t env) a b env := id rfl
@[simp] theorem ifD_ok (x : Bool) (a b : Env → Fl) (env : Env) : ifD (.ok x) a b env = if x = true then a env else b env := id rfl
def setK (i : Nat) (r : Res P) (env : Env) : Fl := match r with
  | .ok p => match setP env i p with
    | some e => .nx e
    | none => .stuck
  | .rs x => .rs x env
  | .stuck => .stuck
@[simp] theorem sSet_eq (i : Nat) (a : Env → Res P) (env : Env) : sSet i a env = setK i (a env) env := id rfl
@[simp] theorem setP_fz (env : Env) (i : Nat) (d : D) : setP env i (.fz d) = if free? env i = true then some (env.set i (.fz d)) else none := id rfl
@[simp] theorem setK_fz (i : Nat) (d : D) (env : Env) (h : free? env i = true) : setK i (.ok (.fz d)) env = .nx (env.set i (.fz d)) := by
  show (match setP env i (.fz d) with
    | some e => Fl.nx e
    | none => .stuck) = _
  rw [setP_fz, if_pos h]
@[simp] theorem setK_rs (i : Nat) (x : Exc) (env : Env) : setK i (.rs x) env = .rs x env := id rfl
def ownK (i : Nat) (r : Res R) (env : Env) : Fl := match r with
  | .ok (.tmp o) => if free? env i = true then .nx (env.set i (.ow o)) else .stuck
  | .rs x => .rs x env
  | _ => .stuck
@[simp] theorem sOwn_eq (i : Nat) (a : Env → Res R) (env : Env) : sOwn i a env = ownK i (a env) env := id rfl
@[simp] theorem ownK_tmp (i : Nat) (o : O) (env : Env) (h : free? env i = true) : ownK i (.ok (.tmp o)) env = .nx (env.set i (.ow o)) := if_pos h
def retK (r : Res R) (env : Env) : Fl := match r with
  | .ok r => .rt r env
  | .rs x => .rs x env
  | .stuck => .stuck
@[simp] theorem sRet_eq (a : Env → Res R) (env : Env) : sRet a env = retK (a env) env := id rfl
@[simp] theorem retK_ok (r : R) (env : Env) : retK (.ok r) env = .rt r env := id rfl
@[simp] theorem retK_rs (x : Exc) (env : Env) : retK (.rs x) env = .rs x env := id rfl
def retOK (s : Option S) (env : Env) : Fl := match s with
  | some (.ow o) => .rt (.tmp o) env
  | _ => .stuck
@[simp] theorem sRetO_eq (i : Nat) (env : Env) : sRetO i env = retOK env[i]? env := id rfl
@[simp] theorem retOK_ow (o : O) (env : Env) : retOK (some (.ow o)) env = .rt (.tmp o) env := id rfl
@[simp] theorem sRetN_eq (env : Env) : sRetN env = .rt (.fz .non) env := id rfl
def coldK (s : Option S) (i : Nat) (m : Env → Fl) (env : Env) : Fl := match s with
  | some (.ow o) => m (env.set i (.fz o.cold))
  | _ => .stuck
@[simp] theorem sCold_eq (i : Nat) (m : Env → Fl) (env : Env) : sCold i m env = coldK env[i]? i m env := id rfl
@[simp] theorem coldK_ow (o : O) (i : Nat) (m : Env → Fl) (env : Env) : coldK (some (.ow o)) i m env = m (env.set i (.fz o.cold)) := id rfl
@[simp] theorem sRaise_eq (x : Str) (env : Env) : sRaise x env = .rs ⟨x, none⟩ env := id rfl
def expK (r : Res R) (env : Env) : Fl := match r with
  | .ok _ => .nx env
  | .rs x => .rs x env
  | .stuck => .stuck
@[simp] theorem sExp_eq (a : Env → Res R) (env : Env) : sExp a env = expK (a env) env := id rfl
@[simp] theorem expK_ok (r : R) (env : Env) : expK (.ok r) env = .nx env := id rfl
@[simp] theorem expK_rs (r : Exc) (env : Env) : expK (.rs r) env = .rs r env := id rfl
def appK (s : Option S) (r : Res P) (i : Nat) (env : Env) : Fl := match s with
  | some (.ow (.lst ds)) => match r with
    | .ok (.fz d) => if ds.length < 16777216 then .nx (env.set i (.ow (.lst (ds ++ [d])))) else .stuck
    | .rs x => .rs x env
    | _ => .stuck
  | _ => .stuck
@[simp] theorem sApp_eq (i : Nat) (a : Env → Res P) (env : Env) : sApp i a env = appK env[i]? (a env) i env := id rfl
@[simp] theorem appK_ow (ds : List D) (d : D) (i : Nat) (env : Env) : appK (some (.ow (.lst ds))) (.ok (.fz d)) i env = if ds.length < 16777216 then .nx (env.set i (.ow (.lst (ds ++ [d])))) else .stuck := id rfl
def itK (s : Option S) (r k : Res P) (i : Nat) (env : Env) : Fl := match s with
  | some (.ow (.lst ds)) => match r.bind fun x => k.bind fun y => .of (match x, y.int? with
    | .fz d, some k => setD ds k d
    | _, _ => none) with
    | .ok ds' => .nx (env.set i (.ow (.lst ds')))
    | .rs x => .rs x env
    | .stuck => .stuck
  | _ => .stuck
def itE (r : Option (List D)) (i : Nat) (env : Env) : Fl := match r with
  | some ds' => .nx (env.set i (.ow (.lst ds')))
  | none => .stuck
@[simp] theorem sIt_eq (i : Nat) (k a : Env → Res P) (env : Env) : sIt i k a env = itK env[i]? (a env) (k env) i env := id rfl
@[simp] theorem itK_ow (ds : List D) (d : D) (k : Int) (i : Nat) (env : Env) : itK (some (.ow (.lst ds))) (.ok (.fz d)) (.ok (.fz (.int k))) i env = itE (setD ds k d) i env := by
  unfold itK itE
  simp only [bind_ok, int?_fz]
  cases setD ds k d <;> rfl
@[simp] theorem itE_some (ds : List D) (i : Nat) (env : Env) : itE (some ds) i env = .nx (env.set i (.ow (.lst ds))) := id rfl
theorem setD_ok {ds : List D} {k : Int} {j : Nat} {d : D} (hk : k = (j : Int)) (hj : j < ds.length) : setD ds k d = some (ds.set j d) := by
  unfold setD ixN
  rw [hk, if_pos (by omega), if_pos (by omega)]
  simp
def augIK (f : Int → Int → Int) (s : Option S) (k r : Res P) (i : Nat) (env : Env) : Fl := match s with
  | some (.ow (.lst ds)) => match k with
    | .ok y => match augAt ds y with
      | some (n, w) => match r with
        | .ok z => match z.int? with
          | some z => .nx (env.set i (.ow (.lst (ds.set n (.int (f w z))))))
          | none => .stuck
        | .rs x => .rs x env
        | .stuck => .stuck
      | none => .stuck
    | .rs x => .rs x env
    | .stuck => .stuck
  | _ => .stuck
def augE (f : Int → Int → Int) (ds : List D) (r : Option (Nat × Int)) (z : Int) (i : Nat) (env : Env) : Fl := match r with
  | some (n, w) => .nx (env.set i (.ow (.lst (ds.set n (.int (f w z))))))
  | none => .stuck
@[simp] theorem sAugI_eq (f : Int → Int → Int) (i : Nat) (k a : Env → Res P) (env : Env) : sAugI f i k a env = augIK f env[i]? (k env) (a env) i env := id rfl
@[simp] theorem augIK_ow (f : Int → Int → Int) (ds : List D) (y : P) (z : Int) (i : Nat) (env : Env) : augIK f (some (.ow (.lst ds))) (.ok y) (.ok (.fz (.int z))) i env = augE f ds (augAt ds y) z i env := by
  show (match augAt ds y with
      | some (n, w) => (.nx (env.set i (.ow (.lst (ds.set n (.int (f w z)))))) : Fl)
      | none => .stuck) = _
  cases augAt ds y <;> rfl
@[simp] theorem augE_some (f : Int → Int → Int) (ds : List D) (n : Nat) (w z : Int) (i : Nat) (env : Env) : augE f ds (some (n, w)) z i env = .nx (env.set i (.ow (.lst (ds.set n (.int (f w z)))))) := id rfl
theorem augAt_at {ds : List D} {k : Int} {n : Nat} {w : Int} (hk : k = (n : Int)) (h : ds[n]? = some (.int w)) : augAt ds (.fz (.int k)) = some (n, w) := by
  unfold augAt
  rw [hk]
  simp only [int?_fz, Int.toNat_natCast, h]
  rw [if_pos (by omega)]
def augK (f : Int → Int → Int) (s : Option S) (r : Res P) (i : Nat) (env : Env) : Fl := match s with
  | some (.fz (.int w)) => match r with
    | .ok z => match z.int? with
      | some z => .nx (env.set i (.fz (.int (f w z))))
      | none => .stuck
    | .rs x => .rs x env
    | .stuck => .stuck
  | _ => .stuck
@[simp] theorem sAug_eq (f : Int → Int → Int) (i : Nat) (a : Env → Res P) (env : Env) : sAug f i a env = augK f env[i]? (a env) i env := id rfl
@[simp] theorem augK_int (f : Int → Int → Int) (w z : Int) (i : Nat) (env : Env) : augK f (some (.fz (.int w))) (.ok (.fz (.int z))) i env = .nx (env.set i (.fz (.int (f w z)))) := id rfl
def popAtK (s : Option S) (r : Res P) (j i : Nat) (env : Env) : Fl := match s with
  | some (.ow (.lst ds)) => match r with
    | .ok (.fz (.int k)) => if -9223372036854775808 ≤ k ∧ k < 9223372036854775808 then match seqIndex? k ds.length with
      | some n => match ds[n]? with
        | some d => match setP (env.set i (.ow (.lst (ds.eraseIdx n)))) j (.fz d) with
          | some e' => .nx e'
          | none => .stuck
        | none => .stuck
      | none => .stuck
      else .stuck
    | .rs x => .rs x env
    | _ => .stuck
  | _ => .stuck
@[simp] theorem sPopAt_eq (j i : Nat) (a : Env → Res P) (env : Env) : sPopAt j i a env = popAtK env[i]? (a env) j i env := id rfl
theorem popAtK_ow {ds : List D} {k : Int} {n : Nat} {d : D} {j i : Nat} {env : Env} (hk : k = (n : Int)) (hn : (n : Int) < 9223372036854775808) (hd : ds[n]? = some d) (hf : free? (env.set i (.ow (.lst (ds.eraseIdx n)))) j = true) :
    popAtK (some (.ow (.lst ds))) (.ok (.fz (.int k))) j i env = .nx ((env.set i (.ow (.lst (ds.eraseIdx n)))).set j (.fz d)) := by
  have hl := (List.getElem?_eq_some_iff.mp hd).1
  have hs : seqIndex? k ds.length = some n := by rw [hk, seqIndex_of (by omega) (by omega)]; simp
  unfold popAtK
  simp only
  rw [if_pos ⟨by omega, by omega⟩, hs]
  simp only [hd, setP_fz, if_pos hf]
/-! targets -/
@[simp] theorem gN_eq (i : Nat) (d : D) (env : Env) : gN i d env = setP env i (.fz d) := id rfl
@[simp] theorem gsNil_eq (env : Env) : gsNil [] env = some env := id rfl
@[simp] theorem gsCons_eq (g : D → Env → Option Env) (h : List D → Env → Option Env) (d : D) (ds : List D) (env : Env) : gsCons g h (d :: ds) env = (g d env).bind (h ds) := by
  show (match g d env with
    | some e => h ds e
    | none => none) = _
  cases g d env <;> rfl
@[simp] theorem gT_eq (h : List D → Env → Option Env) (n : Nat) (ds : List D) (env : Env) (hn : ds.length = n) : gT h n (.tup ds) env = h ds env := if_pos hn
def unpK (g : D → Env → Option Env) (r : Res P) (env : Env) : Fl := match r with
  | .ok (.fz d) => match g d env with
    | some e => .nx e
    | none => .stuck
  | .rs x => .rs x env
  | _ => .stuck
@[simp] theorem sUnp_eq (g : D → Env → Option Env) (a : Env → Res P) (env : Env) : sUnp g a env = unpK g (a env) env := id rfl
theorem unpK_fz {g : D → Env → Option Env} {d : D} {env e : Env} (h : g d env = some e) : unpK g (.ok (.fz d)) env = .nx e := by unfold unpK; simp only [h]
/-! loops -/
def forK (it : P → Option (List D)) (r : Res P) (g : D → Env → Option Env) (b : Env → Fl) (env : Env) : Fl := match r with
  | .ok p => match it p with
    | some ds => forD g b ds env
    | none => .stuck
  | .rs x => .rs x env
  | .stuck => .stuck
@[simp] theorem sFor_eq (it : P → Option (List D)) (a : Env → Res P) (g : D → Env → Option Env) (b : Env → Fl) (env : Env) : sFor it a g b env = forK it (a env) g b env := id rfl
theorem forK_ok {it : P → Option (List D)} {p : P} {g : D → Env → Option Env} {b : Env → Fl} {env : Env} {ds : List D} (h : it p = some ds) : forK it (.ok p) g b env = forD g b ds env := by unfold forK; simp only [h]
@[simp] theorem forK_it (ds : List D) (g : D → Env → Option Env) (b : Env → Fl) (env : Env) : forK P.it? (.ok (.fz (.lst ds))) g b env = forD g b ds env := id rfl
@[simp] theorem forK_amb (ds : List D) (g : D → Env → Option Env) (b : Env → Fl) (env : Env) : forK P.it? (.ok (.bor .amb (.lst ds))) g b env = forD g b ds env := id rfl
@[simp] theorem forK_tup (ds : List D) (g : D → Env → Option Env) (b : Env → Fl) (env : Env) : forK P.tup? (.ok (.fz (.tup ds))) g b env = forD g b ds env := id rfl
def forRK (r : Res (Int × Nat)) (g : D → Env → Option Env) (b : Env → Fl) (env : Env) : Fl := match r with
  | .ok z => forD g b (rngD z.1 z.2) env
  | .rs x => .rs x env
  | .stuck => .stuck
@[simp] theorem sForR_eq (k : List P → Option (Int × Nat)) (a : Env → Res (List P)) (g : D → Env → Option Env) (b : Env → Fl) (env : Env) : sForR k a g b env = forRK (oneA k a env) g b env := id rfl
@[simp] theorem forRK_ok (z : Int × Nat) (g : D → Env → Option Env) (b : Env → Fl) (env : Env) : forRK (.ok z) g b env = forD g b (rngD z.1 z.2) env := id rfl
theorem kRng2_int {i j : Int} (h : -4611686018427387904 ≤ i ∧ i < 4611686018427387904 ∧ -4611686018427387904 ≤ j ∧ j < 4611686018427387904) : kRng2 [.fz (.int i), .fz (.int j)] = some (i, (j - i).toNat) := by unfold kRng2; simp only [int?_fz]; rw [if_pos h]
/-- a loop that only goes on -/
theorem forD_inv {g : D → Env → Option Env} {b : Env → Fl} {ds : List D} {env : Env} (I : Nat → Env → Prop) (h0 : I 0 env)
    (hs : ∀ i d e, ds[i]? = some d → I i e → ∃ e1 e2, g d e = some e1 ∧ (b e1 = .nx e2 ∨ b e1 = .ct e2) ∧ I (i + 1) e2) : ∃ e', forD g b ds env = .nx e' ∧ I ds.length e' := by
  suffices H : ∀ (n i : Nat) (e : Env), ds.length - i = n → i ≤ ds.length → I i e → ∃ e', forD g b (ds.drop i) e = .nx e' ∧ I ds.length e' by
    have := H ds.length 0 env (by simp) (Nat.zero_le _) h0
    simpa using this
  intro n
  induction n with
  | zero =>
    intro i e hn hi he
    have : i = ds.length := by omega
    subst this
    rw [List.drop_length]
    exact ⟨e, rfl, he⟩
  | succ n ih =>
    intro i e hn hi he
    have hlt : i < ds.length := by omega
    obtain ⟨e1, e2, g1, b1, i2⟩ := hs i ds[i] e (List.getElem?_eq_getElem hlt) he
    obtain ⟨e', f1, f2⟩ := ih (i + 1) e2 (by omega) hlt i2
    refine ⟨e', ?_, f2⟩
    rw [List.drop_eq_getElem_cons hlt]
    unfold forD
    simp only [g1]
    rcases b1 with b1 | b1 <;> simp only [b1] <;> exact f1
/-- a loop that may leave the def, or raise -/
theorem forD_find {g : D → Env → Option Env} {b : Env → Fl} {ds : List D} {env : Env} (I : Nat → Env → Prop) (Post : Fl → Prop) (h0 : I 0 env)
    (hs : ∀ i d e, ds[i]? = some d → I i e → ∃ e1, g d e = some e1 ∧ ((∃ e2, (b e1 = .nx e2 ∨ b e1 = .ct e2) ∧ I (i + 1) e2) ∨ (∃ r e2, b e1 = .rt r e2 ∧ Post (.rt r e2)) ∨ (∃ x e2, b e1 = .rs x e2 ∧ Post (.rs x e2)))) :
    (∃ e', forD g b ds env = .nx e' ∧ I ds.length e') ∨ Post (forD g b ds env) := by
  suffices H : ∀ (n i : Nat) (e : Env), ds.length - i = n → i ≤ ds.length → I i e → (∃ e', forD g b (ds.drop i) e = .nx e' ∧ I ds.length e') ∨ Post (forD g b (ds.drop i) e) by
    have := H ds.length 0 env (by simp) (Nat.zero_le _) h0
    simpa using this
  intro n
  induction n with
  | zero =>
    intro i e hn hi he
    have : i = ds.length := by omega
    subst this
    rw [List.drop_length]
    exact .inl ⟨e, rfl, he⟩
  | succ n ih =>
    intro i e hn hi he
    have hlt : i < ds.length := by omega
    obtain ⟨e1, g1, h⟩ := hs i ds[i] e (List.getElem?_eq_getElem hlt) he
    rw [List.drop_eq_getElem_cons hlt]
    unfold forD
    simp only [g1]
    rcases h with ⟨e2, b1, i2⟩ | ⟨r, e2, b1, p⟩ | ⟨x, e2, b1, p⟩
    · have := ih (i + 1) e2 (by omega) hlt i2
      rcases b1 with b1 | b1 <;> simp only [b1] <;> exact this
    · simp only [b1]; exact .inr p
    · simp only [b1]; exact .inr p
/-! whole defs -/
theorem runF_rt {np n : Nat} {m : Env → Fl} {args : List S} {r : R} {e : Env} (h1 : args.length = np) (h2 : np ≤ n) (hm : m (args ++ List.replicate (n - np) .un) = .rt r e) (hr : ∀ l o, r ≠ .bor l o) : runF np n m args = .ok r (outOf e) := by
  unfold runF
  rw [if_pos ⟨h1, h2⟩, hm]
  cases r with
  | bor l o => exact absurd rfl (hr l o)
  | fz d => rfl
  | tmp o => rfl
theorem runF_rs {np n : Nat} {m : Env → Fl} {args : List S} {x : Exc} {e : Env} (h1 : args.length = np) (h2 : np ≤ n) (hm : m (args ++ List.replicate (n - np) .un) = .rs x e) : runF np n m args = .rs x (outOf e) := by
  unfold runF
  rw [if_pos ⟨h1, h2⟩, hm]
theorem runF_nx {np n : Nat} {m : Env → Fl} {args : List S} {e : Env} (h1 : args.length = np) (h2 : np ≤ n) (hm : m (args ++ List.replicate (n - np) .un) = .nx e) : runF np n m args = .ok (.fz .non) (outOf e) := by
  unfold runF
  rw [if_pos ⟨h1, h2⟩, hm]
@[simp] theorem outOf_fz (d : D) (e : Env) : outOf (.fz d :: e) = none := id rfl
@[simp] theorem outOf_rd (d : O) (e : Env) : outOf (.rd d :: e) = none := id rfl
@[simp] theorem outOf_ow (d : O) (e : Env) : outOf (.ow d :: e) = none := id rfl
@[simp] theorem outOf_mu (d : O) (e : Env) : outOf (.mu d :: e) = some d := id rfl
/-! items -/
theorem atI_ok {α : Type} {ds : List α} {i : Int} {j : Nat} {d : α} (hi : i = (j : Int)) (h : ds[j]? = some d) : L2.atI ds i = some d := by rw [hi]; exact L2.atI_nat h
theorem kIx_ok {p : P} {ds : List D} {i : Int} {j : Nat} {d : D} (hp : p.seq? = some ds) (hi : i = (j : Int)) (h : ds[j]? = some d) : kIx p (.fz (.int i)) = some d := by
  unfold kIx
  simp only [int?_fz, hp]
  exact atI_ok hi h
theorem map_get {α β : Type} {f : α → β} {l : List α} {j : Nat} {a : α} (h : l[j]? = some a) : (l.map f)[j]? = some (f a) := by rw [List.getElem?_map, h]; rfl
@[simp] theorem kRng1_nat {n : Nat} (h : n ≤ 1000000) : kRng1 [.fz (.int (n : Int))] = some (0, n) := by
  rw [kRng1_eq, int?_fz, Option.bind_some, if_pos ⟨by omega, by omega⟩, Int.toNat_natCast]
theorem kRng1_int {i : Int} {n : Nat} (hi : i = (n : Int)) (h : n ≤ 1000000) : kRng1 [.fz (.int i)] = some (0, n) := by rw [hi, kRng1_nat h]
/-! comprehensions -/
theorem compD_fm {g : D → Env → Option Env} {tc : Env → Res Bool} {me : Env → Res P} {env : Env} {p : D → Bool} {f : D → D} : ∀ (ds acc : List D),
    (∀ d ∈ ds, ∃ e, g d env = some e ∧ tc e = .ok (p d) ∧ (p d = true → me e = .ok (.fz (f d)))) → compD g tc me env ds acc = .ok (acc ++ (ds.filter p).map f)
  | [], acc, _ => by simp [compD]
  | d :: ds, acc, h => by
    obtain ⟨e, h1, h2, h3⟩ := h d List.mem_cons_self
    unfold compD
    simp only [h1, h2]
    cases hp : p d with
    | false =>
      simp only
      rw [compD_fm ds acc fun x hx => h x (List.mem_cons_of_mem _ hx)]
      simp [hp]
    | true =>
      simp only [h3 hp]
      rw [compD_fm ds _ fun x hx => h x (List.mem_cons_of_mem _ hx)]
      simp [hp]
theorem mComp_fm {v : Nat} {tc : Env → Res Bool} {me : Env → Res P} {ds : List D} {env : Env} (p : D → Bool) (f : D → D) (hf : free? env v = true) (hl : ds.length ≤ 16777216)
    (h : ∀ d ∈ ds, ∃ e, gN v d (wipeE env [v]) = some e ∧ tc e = .ok (p d) ∧ (p d = true → me e = .ok (.fz (f d)))) : mComp v tc me ds env = .ok (.tmp (.lst ((ds.filter p).map f))) := by
  unfold mComp
  rw [if_pos ⟨hf, hl⟩, compD_fm ds [] h]
  simp
def lcK (it : P → Option (List D)) (r : Res P) (v : Nat) (tc : Env → Res Bool) (me : Env → Res P) (env : Env) : Res R := match r with
  | .ok pp => match it pp with
    | some ds => mComp v tc me ds env
    | none => .stuck
  | .rs x => .rs x
  | .stuck => .stuck
@[simp] theorem mLc_eq (it : P → Option (List D)) (v : Nat) (a : Env → Res P) (tc : Env → Res Bool) (me : Env → Res P) (env : Env) : mLc it v a tc me env = lcK it (a env) v tc me env := id rfl
@[simp] theorem lcK_it (ds : List D) (v : Nat) (tc : Env → Res Bool) (me : Env → Res P) (env : Env) : lcK P.it? (.ok (.fz (.lst ds))) v tc me env = mComp v tc me ds env := id rfl
@[simp] theorem lcK_amb (ds : List D) (v : Nat) (tc : Env → Res Bool) (me : Env → Res P) (env : Env) : lcK P.it? (.ok (.bor .amb (.lst ds))) v tc me env = mComp v tc me ds env := id rfl
@[simp] theorem lcK_tup (ds : List D) (v : Nat) (tc : Env → Res Bool) (me : Env → Res P) (env : Env) : lcK P.tup? (.ok (.fz (.tup ds))) v tc me env = mComp v tc me ds env := id rfl
def lcRK (r : Res (Int × Nat)) (v : Nat) (tc : Env → Res Bool) (me : Env → Res P) (env : Env) : Res R := match r with
  | .ok z => mComp v tc me (rngD z.1 z.2) env
  | .rs x => .rs x
  | .stuck => .stuck
@[simp] theorem mLcR_eq (k : List P → Option (Int × Nat)) (v : Nat) (a : Env → Res (List P)) (tc : Env → Res Bool) (me : Env → Res P) (env : Env) : mLcR k v a tc me env = lcRK (oneA k a env) v tc me env := id rfl
@[simp] theorem lcRK_ok (z : Int × Nat) (v : Nat) (tc : Env → Res Bool) (me : Env → Res P) (env : Env) : lcRK (.ok z) v tc me env = mComp v tc me (rngD z.1 z.2) env := id rfl
/-! in -/
theorem fvs_ints : ∀ ns : List Int, fvs (ns.map D.int) = some (ns.map V.int)
  | [] => rfl
  | n :: ns => by simp [fvs, D.fv, fvs_ints ns]
theorem inV_ints (i : Int) : ∀ ns : List Int, inV (.int i) (ns.map V.int) = decide (i ∈ ns)
  | [] => rfl
  | n :: ns => by
    have ih := inV_ints i ns
    unfold inV at ih ⊢
    simp only [List.map_cons, List.any_cons, ih]
    by_cases h : n = i
    · subst h; simp [eqV]
    · have h' : ¬ i = n := fun z => h z.symm
      simp [eqV, h, h']
theorem kIn_ints {p : P} {i : Int} {ns : List Int} (hp : p.seq? = some (ns.map D.int)) : kIn (.fz (.int i)) p = some (decide (i ∈ ns)) := by
  unfold kIn
  simp only [d?_fz, hp, D.fv, fvs_ints, inV_ints]
theorem kNi_ints {p : P} {i : Int} {ns : List Int} (hp : p.seq? = some (ns.map D.int)) : kNi (.fz (.int i)) p = some (!decide (i ∈ ns)) := by
  unfold kNi
  rw [kIn_ints hp]
  rfl
/-! == of lists of ints -/
theorem pds_ints : ∀ ns : List Int, pds (ns.map D.int) = some (ns.map PyData.int)
  | [] => rfl
  | n :: ns => by simp [pds, D.pd, pds_ints ns]
theorem eqvAll_ints : ∀ ns ms : List Int, PyData.eqvAll (ns.map PyData.int) (ms.map PyData.int) = decide (ns = ms)
  | [], [] => rfl
  | [], m :: ms => rfl
  | n :: ns, [] => rfl
  | n :: ns, m :: ms => by
    simp only [List.map_cons, PyData.eqvAll, PyData.eqv, eqvAll_ints ns ms]
    by_cases h : n = m
    · subst h; simp
    · simp [h]
theorem canLay_ints : ∀ ns : List Int, PyData.canLayAll0 (ns.map PyData.int) = true
  | [] => rfl
  | n :: ns => by simp [PyData.canLayAll0, PyData.canLay0, canLay_ints ns]
theorem depth_ints : ∀ ns : List Int, PyData.depthAll (ns.map PyData.int) ≤ 1
  | [] => by simp [PyData.depthAll]
  | n :: ns => by
    have := depth_ints ns
    simp only [List.map_cons, PyData.depthAll, PyData.depth]
    omega
theorem shaped_ints (ns : List Int) : SeqAt.shaped (.list (ns.map PyData.int)) = true := by
  have h1 : PyData.canLay0 (.list (ns.map PyData.int)) = true := by rw [PyData.canLay0]; exact canLay_ints ns
  have h2 : PyData.depth (.list (ns.map PyData.int)) ≤ 64 := by
    rw [PyData.depth]
    have := depth_ints ns
    omega
  unfold SeqAt.shaped
  rw [h1, Bool.true_and]
  exact decide_eq_true h2
def P.ints (p : P) (ns : List Int) : Prop := p.pd = some (.list (ns.map PyData.int))
theorem P.ints_fz (ns : List Int) : P.ints (.fz (.lst (ns.map D.int))) ns := by simp [P.ints, P.pd, D.pd, pds_ints]
theorem P.ints_bor (l : Lab) (ns : List Int) : P.ints (.bor l (.lst (ns.map D.int))) ns := by simp [P.ints, P.pd, D.pd, pds_ints]
theorem kEq_ints {p q : P} {ns ms : List Int} (hp : p.ints ns) (hq : q.ints ms) : kEq p q = some (decide (ns = ms)) := by
  unfold P.ints at hp hq
  unfold kEq
  simp only [hp, hq]
  rw [if_pos ⟨shaped_ints _, shaped_ints _⟩]
  simp only [PyData.eqv, eqvAll_ints]
theorem kNe_ints {p q : P} {ns ms : List Int} (hp : p.ints ns) (hq : q.ints ms) : kNe p q = some (!decide (ns = ms)) := by
  unfold kNe; rw [kEq_ints hp hq]; rfl
@[simp] theorem kEq_i (i j : Int) : kEq (.fz (.int i)) (.fz (.int j)) = some (i == j) := id rfl
@[simp] theorem kNe_i (i j : Int) : kNe (.fz (.int i)) (.fz (.int j)) = some (!(i == j)) := id rfl
/-! calls whose answers are new -/
@[simp] theorem mCallN_eq (f : List S → CallR) (a : Env → Res (List P)) (env : Env) : mCallN f a env = (a env).bind fun ps => match flats ps with
  | some ds => mRunN (f (ds.map S.fz))
  | none => .stuck := id rfl
@[simp] theorem mIxN_eq (a : Env → Res D) (b : Env → Res P) (env : Env) : mIxN a b env = (a env).bind fun x => (b env).bind fun y => .of (kIxN x y) := id rfl
@[simp] theorem mOwnN_eq (a : Env → Res D) (env : Env) : mOwnN a env = (a env).bind fun d => match d with
  | .lst ds => if ds.all scal = true then .ok (.tmp (.lst ds)) else .stuck
  | _ => .stuck := id rfl
@[simp] theorem mRunN_tmp (o : O) (x : Option O) : mRunN (.ok (.tmp o) x) = .ok o.cold := id rfl
@[simp] theorem mRunN_fz (d : D) (x : Option O) : mRunN (.ok (.fz d) x) = .ok d := id rfl
theorem scal_ints (ns : List Int) : (ns.map D.int).all scal = true := by
  rw [List.all_eq_true]
  intro d hd
  obtain ⟨n, _, rfl⟩ := List.mem_map.mp hd
  rfl
/-! slices -/
theorem sIx_lo {n k : Nat} {d : Nat} (h : k ≤ n) : HT.sIx n d (some (k : Int)) = k := by rw [HT.sIx_nat]; omega
theorem cut_to {ds : List D} {k : Nat} (h : k ≤ ds.length) : cutD ds none (some (k : Int)) = ds.take k := by
  unfold cutD
  rw [sIx_lo h]
  simp [HT.sIx]
theorem cut_le {ds : List D} {k : Nat} : (cutD ds none (some (k : Int))).length ≤ k := by
  unfold cutD
  rw [HT.sIx_nat]
  simp [HT.sIx]
  omega
theorem cut_from_to {ds : List D} {j k : Nat} (h : k ≤ ds.length) (hj : j ≤ k) : cutD ds (some (j : Int)) (some (k : Int)) = (ds.drop j).take (k - j) := by
  unfold cutD
  rw [sIx_lo h, sIx_lo (by omega)]
theorem kSlL_lst (ds : List D) (lo hi : Option Int) : kSlL (.fz (.lst ds)) lo hi = some (cutD ds lo hi) := rfl
theorem kSlL_bor (l : Lab) (ds : List D) (lo hi : Option Int) : kSlL (.bor l (.lst ds)) lo hi = some (cutD ds lo hi) := rfl
theorem kSlL_scr (ns : List Int) (lo hi : Option Int) : kSlL (.fz (.scr ns)) lo hi = some (cutD (ns.map D.int) lo hi) := rfl
theorem cutD_mem {ds : List D} {lo hi : Option Int} {d : D} (h : d ∈ cutD ds lo hi) : d ∈ ds := List.mem_of_mem_drop (List.mem_of_mem_take h)
end RC

set_option Elab.async false
set_option linter.all false
set_option maxRecDepth 100000
set_option maxHeartbeats 1000000
/-! A2: data and judging common to the laws. -/
namespace RC
open PySem PySem.Spec PyProof.Rows L2
abbrev Ln := List (Int × Int)
def pairD (p : Int × Int) : D := .tup [.int p.1, .int p.2]
def linesD (ls : Ln) : D := .tup (ls.map pairD)
def intsD (ns : List Int) : D := .lst (ns.map D.int)
def bI (bs : List Int) (i : Nat) : Int := bs.getD i 0
theorem get_bI {bs : List Int} {i : Nat} (h : i < bs.length) : (bs.map D.int)[i]? = some (.int (bI bs i)) := by
  rw [List.getElem?_map]; unfold bI; rw [List.getD_eq_getElem?_getD, List.getElem?_eq_getElem h]; rfl
theorem rngD_at {lo : Int} {n i : Nat} {d : D} (h : (rngD lo n)[i]? = some d) : i < n ∧ d = .int (lo + (i : Int)) := by
  have hi : i < n := by have := (List.getElem?_eq_some_iff.mp h).1; rwa [rngD_len] at this
  rw [rngD_get hi] at h
  exact ⟨hi, (Option.some.inj h).symm⟩
theorem emod_nat {a : Int} {b : Int} (h : 0 < b) : ∃ n : Nat, a % b = (n : Int) ∧ (n : Int) < b :=
  ⟨(a % b).toNat, by rw [Int.toNat_of_nonneg (Int.emod_nonneg _ (by omega))], by rw [Int.toNat_of_nonneg (Int.emod_nonneg _ (by omega))]; exact Int.emod_lt_of_pos _ h⟩
@[simp] theorem kIx1 (x y : D) : kIx (.fz (.tup [x, y])) (.fz (.int 1)) = some y := kIx_ok (j := 1) rfl rfl rfl
@[simp] theorem kIx0 (x y : D) : kIx (.fz (.tup [x, y])) (.fz (.int 0)) = some x := kIx_ok (j := 0) rfl rfl rfl
theorem rep_flat {α : Type} (x : α) (n : Nat) : (List.replicate n [x]).flatten = List.replicate n x := by
  induction n with
  | zero => rfl
  | succ n ih => rw [List.replicate_succ, List.flatten_cons, ih, List.replicate_succ]; rfl
@[simp] theorem kRep_one (x : D) (n : Nat) (h : n ≤ 16777216) : kRep (.fz (.lst [x])) (.fz (.int (n : Int))) = some (List.replicate n x) := by
  unfold kRep
  simp only [lst?_fz, int?_fz]
  rw [if_pos ⟨by omega, by omega, by simp; omega⟩, Int.toNat_natCast, rep_flat]
@[simp] theorem kLen_lst (ds : List D) : kLen [.fz (.lst ds)] = some (ds.length : Int) := id rfl
@[simp] theorem kLen_tup (ds : List D) : kLen [.fz (.tup ds)] = some (ds.length : Int) := id rfl
@[simp] theorem kLen_bor (l : Lab) (ds : List D) : kLen [.bor l (.lst ds)] = some (ds.length : Int) := id rfl
@[simp] theorem kListc_lst (ds : List D) : kListc [.fz (.lst ds)] = some ds := id rfl
@[simp] theorem kListc_bor (l : Lab) (ds : List D) : kListc [.bor l (.lst ds)] = some ds := id rfl
@[simp] theorem kListc_tup (ds : List D) : kListc [.fz (.tup ds)] = some ds := id rfl
@[simp] theorem kTupc_bor (l : Lab) (ds : List D) : kTupc [.bor l (.lst ds)] = some ds := id rfl
@[simp] theorem kTupc_lst (ds : List D) : kTupc [.fz (.lst ds)] = some ds := id rfl
@[simp] theorem cold_nil : cold [] = some [] := id rfl
@[simp] theorem cold_fz (d : D) (ps : List P) : cold (.fz d :: ps) = (cold ps).map fun ds => d :: ds := id rfl
@[simp] theorem kDisp_eq (ps : List P) : kDisp ps = (cold ps).bind fun ds => if ds.length ≤ 16777216 then some ds else none := id rfl
theorem rep_int (n : Nat) : List.replicate n (D.int 0) = (List.replicate n (0 : Int)).map D.int := by simp
@[simp] theorem scal_i (a : Int) : scal (.int a) = true := id rfl
def Row (ds : List Int) : Prop := ∀ d ∈ ds, 0 ≤ d ∧ d ≤ 996
theorem Row.app {ds : List Int} (h : Row ds) {d : Int} (h0 : 0 ≤ d) (h1 : d ≤ 996) : Row (ds ++ [d]) := fun x hx => by
  rcases List.mem_append.mp hx with hx | hx
  · exact h x hx
  · have := List.mem_singleton.mp hx; omega
theorem iPow18 : iPow 10 18 = some 1000000000000000000 := by rfl
theorem isi_int (i : Int) : kIsi "int" (.fz (.int i)) = some true := rfl
theorem isi_bool (i : Int) : kIsi "bool" (.fz (.int i)) = some false := rfl
theorem isi_list_fz (ds : List D) : kIsi "list" (.fz (.lst ds)) = some true := rfl
theorem isi_list_bor (l : Lab) (ds : List D) : kIsi "list" (.bor l (.lst ds)) = some true := rfl
theorem ints_map' : ∀ ns : List Int, ints? (ns.map D.int) = some ns
  | [] => rfl
  | n :: ns => by simp [ints?, ints_map' ns]
theorem kSum_ints (l : Lab) (ns : List Int) : kSum [.bor l (.lst (ns.map D.int))] = some ns.sum := by simp [kSum, ints_map']
theorem erase_map {α β : Type} (f : α → β) : ∀ (l : List α) (n : Nat), (l.map f).eraseIdx n = (l.eraseIdx n).map f
  | [], n => rfl
  | a :: l, 0 => rfl
  | a :: l, n + 1 => by
    rw [List.map_cons, List.eraseIdx_cons_succ, List.eraseIdx_cons_succ, List.map_cons, erase_map f l n]
theorem erase_perm {α : Type} : ∀ (l : List α) (n : Nat) (h : n < l.length), (l[n] :: l.eraseIdx n).Perm l
  | a :: l, 0, h => .refl _
  | a :: l, n + 1, h => by
    rw [List.eraseIdx_cons_succ, List.getElem_cons_succ]
    exact (List.Perm.swap _ _ _).trans (.cons a (erase_perm l n (by simpa using h)))
theorem erase_mem {α : Type} {l : List α} {n : Nat} {a : α} (h : a ∈ l.eraseIdx n) : a ∈ l := List.mem_of_mem_eraseIdx h
theorem kIx_ints {ds : List Int} {i : Int} {j : Nat} (hi : i = (j : Int)) (h : j < ds.length) : kIx (.fz (.lst (ds.map D.int))) (.fz (.int i)) = some (.int (bI ds j)) := kIx_ok rfl hi (get_bI h)
theorem Row.at {ds : List Int} (h : Row ds) (j : Nat) : 0 ≤ bI ds j ∧ bI ds j ≤ 996 := by
  unfold bI
  rw [List.getD_eq_getElem?_getD]
  cases hi : ds[j]? with
  | none => simp
  | some b => exact h b (List.mem_of_getElem? hi)
theorem mComp_rng {v n : Nat} {lo : Int} {tc : Env → Res Bool} {me : Env → Res P} {env : Env} (g : Nat → D) (hf : free? env v = true) (hl : n ≤ 16777216)
    (hb : v < env.length) (ht : ∀ i, i < n → tc (env.set v (.fz (.int (lo + (i : Int))))) = .ok true) (h : ∀ i, i < n → me (env.set v (.fz (.int (lo + (i : Int))))) = .ok (.fz (g i))) : mComp v tc me (rngD lo n) env = .ok (.tmp (.lst ((List.range n).map g))) := by
  let f : D → D := fun d => match d with
    | .int k => g (k - lo).toNat
    | _ => .non
  rw [mComp_fm (fun _ => true) f hf (by rw [rngD_len]; omega) (fun d hd => by
    obtain ⟨i, hi, rfl⟩ := List.mem_map.mp hd
    have hi := List.mem_range.mp hi
    refine ⟨env.set v (.fz (.int (lo + (i : Int)))), ?_, ht i hi, fun _ => ?_⟩
    · show setP ((env.set v .un)) v (.fz (.int (lo + (i : Int)))) = _
      rw [setP_fz, if_pos (by rw [free?_eq, List.getElem?_set_self hb]; rfl), List.set_set]
    · rw [h i hi]
      show _ = Res.ok (P.fz (g (lo + (i : Int) - lo).toNat))
      have : (lo + (i : Int) - lo).toNat = i := by omega
      rw [this])]
  have e : ((rngD lo n).filter fun _ => true).map f = (List.range n).map g := by
    have e1 : ((rngD lo n).filter fun _ => true) = rngD lo n := List.filter_eq_self.mpr fun _ _ => rfl
    rw [e1]
    unfold rngD
    rw [List.map_map]
    refine List.map_congr_left fun i _ => ?_
    show g (lo + (i : Int) - lo).toNat = g i
    have : (lo + (i : Int) - lo).toNat = i := by omega
    rw [this]
  rw [e]
theorem nodup_at {ls : Ln} (nd : (ls.map Prod.fst).Nodup) {i j : Nat} (hi : i < ls.length) (hj : j < ls.length) : ((ls.getD i (0, 0)).1 = (ls.getD j (0, 0)).1) ↔ i = j := by
  constructor
  · intro h
    rw [List.getD_eq_getElem?_getD, List.getD_eq_getElem?_getD, List.getElem?_eq_getElem hi, List.getElem?_eq_getElem hj] at h
    have hi' : i < (ls.map Prod.fst).length := by simpa using hi
    have hj' : j < (ls.map Prod.fst).length := by simpa using hj
    have e : (ls.map Prod.fst)[i] = (ls.map Prod.fst)[j] := by simpa using h
    rcases Nat.lt_trichotomy i j with c | c | c
    · exact absurd e (List.pairwise_iff_getElem.mp nd i j hi' hj' c)
    · exact c
    · exact absurd e.symm (List.pairwise_iff_getElem.mp nd j i hj' hi' c)
  · intro h; rw [h]
theorem compD_map {α : Type} {g : D → Env → Option Env} {tc : Env → Res Bool} {me : Env → Res P} {env : Env} (h k : α → D) (p : α → Bool) : ∀ (xs : List α) (acc : List D),
    (∀ x ∈ xs, ∃ e, g (h x) env = some e ∧ tc e = .ok (p x) ∧ (p x = true → me e = .ok (.fz (k x)))) → compD g tc me env (xs.map h) acc = .ok (acc ++ (xs.filter p).map k)
  | [], acc, _ => by simp [compD]
  | x :: xs, acc, H => by
    obtain ⟨e, h1, h2, h3⟩ := H x List.mem_cons_self
    rw [List.map_cons]
    unfold compD
    simp only [h1, h2]
    cases hp : p x with
    | false =>
      simp only
      rw [compD_map h k p xs acc fun x hx => H x (List.mem_cons_of_mem _ hx)]
      simp [hp]
    | true =>
      simp only [h3 hp]
      rw [compD_map h k p xs _ fun x hx => H x (List.mem_cons_of_mem _ hx)]
      simp [hp]
theorem mComp_flt {α : Type} {v : Nat} {tc : Env → Res Bool} {me : Env → Res P} {env : Env} {xs : List α} (h k : α → D) (p : α → Bool) (hf : free? env v = true) (hb : v < env.length) (hl : xs.length ≤ 16777216)
    (ht : ∀ x ∈ xs, tc (env.set v (.fz (h x))) = .ok (p x)) (he : ∀ x ∈ xs, p x = true → me (env.set v (.fz (h x))) = .ok (.fz (k x))) : mComp v tc me (xs.map h) env = .ok (.tmp (.lst ((xs.filter p).map k))) := by
  unfold mComp
  rw [if_pos ⟨hf, by rw [List.length_map]; exact hl⟩, compD_map h k p xs [] fun x hx => ⟨env.set v (.fz (h x)), by
    show setP ((env.set v .un)) v (.fz (h x)) = _
    rw [setP_fz, if_pos (by rw [free?_eq, List.getElem?_set_self hb]; rfl), List.set_set], ht x hx, he x hx⟩]
  simp
theorem mComp_map {α : Type} {v : Nat} {me : Env → Res P} {env : Env} {xs : List α} (h k : α → D) (hf : free? env v = true) (hb : v < env.length) (hl : xs.length ≤ 16777216)
    (he : ∀ x ∈ xs, me (env.set v (.fz (h x))) = .ok (.fz (k x))) : mComp v tYesB me (xs.map h) env = .ok (.tmp (.lst (xs.map k))) := by
  rw [mComp_flt h k (fun _ => true) hf hb hl (fun x hx => rfl) (fun x hx _ => he x hx), List.filter_eq_self.mpr fun _ _ => rfl]
theorem kSum_fz (ns : List Int) : kSum [.fz (.lst (ns.map D.int))] = some ns.sum := by simp [kSum, ints_map']
/-- lines that may be reckoned with -/
structure GoodL (ls : Ln) : Prop where
  pos : ls ≠ []
  few : ls.length ≤ 4
  w : ∀ p ∈ ls, 1 ≤ p.2 ∧ p.2 ≤ 20
structure Lines (ls : Ln) : Prop where
  good : GoodL ls
  house : ∀ p ∈ ls, 0 ≤ p.1 ∧ p.1 < 6
  nodup : (ls.map Prod.fst).Nodup
theorem slice_ints {ds : List Int} {lo hi : Int} {i j : Nat} (hlo : lo = (i : Int)) (hhi : hi = (j : Int)) (h1 : i ≤ j) (h2 : j ≤ ds.length) : kSlL (.fz (.lst (ds.map D.int))) (some lo) (some hi) = some (((ds.drop i).take (j - i)).map D.int) := by
  rw [kSlL_lst, hlo, hhi, cut_from_to (by simpa using h2) h1, List.map_take, List.map_drop]
theorem slice_len {ds : List Int} {i j : Nat} (h1 : i ≤ j) (h2 : j ≤ ds.length) : ((ds.drop i).take (j - i)).length = j - i := by simp; omega
theorem Row.slice {ds : List Int} (h : Row ds) (i j : Nat) : Row ((ds.drop i).take j) := fun d hd => h d (List.mem_of_mem_drop (List.mem_of_mem_take hd))
end RC

set_option Elab.async false
set_option linter.all false
set_option maxRecDepth 100000
namespace RC
open PySem PySem.Spec PyProof.Rows L2
def m_are_lines_l1 : Env → Fl :=
  (sSeq (sIf (bOr (m2 kLt (mVar 2) (mC (.int 0))) (bOr (m2 kGe (mVar 2) (mC (.int 6))) (bOr (m2 kIn (mVar 2) (mVar 1)) (bOr (m2 kLt (mVar 3) (mC (.int 1))) (m2 kGt (mVar 3) (mC (.int 20)))))))
  (sRet (mUp (mC (.bl false))))
  sNil)
  (sApp 1 (mVar 2)))
def m_are_lines : Env → Fl :=
  (sSeq (sIf (bOr (m2 kLt (mLen (mCons (mVar 0) mNil)) (mC (.int 1))) (m2 kGt (mLen (mCons (mVar 0) mNil)) (mC (.int 4))))
  (sRet (mUp (mC (.bl false))))
  sNil)
  (sSeq (sOwn 1 (mLst mNil))
  (sSeq (sFor P.tup? (mVar 0) (gT (gsCons (gN 2) (gsCons (gN 3) gsNil)) 2) m_are_lines_l1)
  (sRet (mUp (mC (.bl true)))))))
def f_are_lines : List S → CallR := runF 1 4 m_are_lines
def m_foremost_l1 : Env → Fl :=
  (sIf (m2 kLt (mI iMul (mI iAdd (mIx (mVar 1) (mVar 3)) (mC (.int 1))) (mIx (mIx (mVar 0) (mVar 2)) (mC (.int 1)))) (mI iMul (mI iAdd (mIx (mVar 1) (mVar 2)) (mC (.int 1))) (mIx (mIx (mVar 0) (mVar 3)) (mC (.int 1)))))
  (sSet 2 (mVar 3))
  sNil)
def m_foremost : Env → Fl :=
  (sSeq (sSet 2 (mC (.int 0)))
  (sSeq (sForR kRng2 (mCons (mC (.int 1)) (mCons (mLen (mCons (mVar 0) mNil)) mNil)) (gN 3) m_foremost_l1)
  (sRet (mUp (mVar 2)))))
def f_foremost : List S → CallR := runF 2 4 m_foremost
def m_grown_parts_l1 : Env → Fl :=
  (sSeq (sAugI (fun i j => i + j) 2 (mOp (mCall f_foremost (mCons (mVar 0) (mCons (mVar 2) mNil)))) (mC (.int 1)))
  (sApp 3 (mOp (mListc (mCons (mVar 2) mNil)))))
def m_grown_parts : Env → Fl :=
  (sSeq (sOwn 2 (mRep (mOp (mLst (mCons (mC (.int 0)) mNil))) (mLen (mCons (mVar 0) mNil))))
  (sSeq (sOwn 3 (mLst (mCons (mOp (mListc (mCons (mVar 2) mNil))) mNil)))
  (sSeq (sForR kRng1 (mCons (mVar 1) mNil) (gN 4) m_grown_parts_l1)
  (sRetO 3))))
def f_grown_parts : List S → CallR := runF 2 5 m_grown_parts
def m_is_by : Env → Fl :=
  (sSeq (sIf (m2 kEq (mVar 0) (mC (.str "share")))
  (sRet (mUp (mAnd (mBl (m2 kGe (mVar 1) (mC (.int 1)))) (mBl (m2 kLe (mVar 1) (mC (.int 100)))))))
  sNil)
  (sRet (mUp (mAnd (mBl (m2 kEq (mVar 0) (mC (.str "layer")))) (mAnd (mBl (m2 kGe (mVar 1) (mC (.int 0)))) (mBl (m2 kLe (mVar 1) (mC (.int 200)))))))))
def f_is_by : List S → CallR := runF 2 2 m_is_by
def m_is_cover_l1 : Env → Fl :=
  (sIf (bOr (m2 kGe (mVar 7) (mVar 0)) (m2 kEq (mVar 7) (mVar 2)))
  (sRet (mUp (mC (.bl false))))
  sNil)
def m_is_cover : Env → Fl :=
  (sSeq (sIf (m2 kNe (mLen (mCons (mVar 1) mNil)) (mC (.int 5)))
  (sRet (mUp (mC (.bl false))))
  sNil)
  (sSeq (sUnp (gT (gsCons (gN 2) (gsCons (gN 3) (gsCons (gN 4) (gsCons (gN 5) (gsCons (gN 6) gsNil))))) 5) (mVar 1))
  (sSeq (sIf (bOr (m2 kLt (mVar 2) (mC (.int 0))) (bOr (m2 kGe (mVar 2) (mVar 0)) (bOr (bNot (one1 P.bl? (mOp (mCall f_is_by (mCons (mVar 3) (mCons (mVar 4) mNil)))))) (bOr (m2 kLt (mVar 5) (mC (.int 0))) (m2 kGt (mVar 5) (mC (.int 24)))))))
  (sRet (mUp (mC (.bl false))))
  sNil)
  (sSeq (sIf (bNot (one1 P.bl? (mOp (mCall f_are_lines (mCons (mVar 6) mNil)))))
  (sRet (mUp (mC (.bl false))))
  sNil)
  (sSeq (sFor P.tup? (mVar 6) (gT (gsCons (gN 7) (gsCons (gN 8) gsNil)) 2) m_is_cover_l1)
  (sRet (mUp (mC (.bl true)))))))))
def f_is_cover : List S → CallR := runF 2 9 m_is_cover
def m_taken : Env → Fl :=
  (sSeq (sIf (m2 kEq (mVar 0) (mC (.str "share")))
  (sRet (mUp (mMin2 (mCons (mVar 2) (mCons (mI iDiv (mI iMul (mVar 3) (mVar 1)) (mC (.int 100))) mNil)))))
  sNil)
  (sRet (mUp (mMin2 (mCons (mVar 2) (mCons (mMax2 (mCons (mC (.int 0)) (mCons (mI iSub (mVar 3) (mVar 1)) mNil))) mNil))))))
def f_taken : List S → CallR := runF 4 4 m_taken
def m_look_houses : Env → Fl :=
  (sIf (bOr (m2 kLt (mVar 0) (mC (.int 1))) (m2 kGt (mVar 0) (mC (.int 6))))
  (sRaise "BadHouses")
  sNil)
def f_look_houses : List S → CallR := runF 1 1 m_look_houses
def m_Table___init___l1 : Env → Fl :=
  (sIf (bNot (one1 P.bl? (mOp (mCall f_is_cover (mCons (mVar 1) (mCons (mVar 4) mNil))))))
  (sRaise "BadCover")
  sNil)
def m_Table___init___l2 : Env → Fl :=
  (sIf (bOr (m2 kLt (mVar 5) (mC (.int 0))) (m2 kGt (mVar 5) (mC (.int 9999))))
  (sRaise "BadLosses")
  sNil)
def m_Table___init__ : Env → Fl :=
  (sSeq (sExp (mCall f_look_houses (mCons (mVar 1) mNil)))
  (sSeq (sIf (m2 kGt (mLen (mCons (mVar 2) mNil)) (mC (.int 10)))
  (sRaise "BadCover")
  sNil)
  (sSeq (sFor P.it? (mVar 2) (gN 4) m_Table___init___l1)
  (sSeq (sIf (m2 kNe (mLen (mCons (mVar 3) mNil)) (mVar 1))
  (sRaise "BadLosses")
  sNil)
  (sSeq (sFor P.it? (mVar 3) (gN 5) m_Table___init___l2)
  (sSeq (sAtt "Table" "size" 0 (mVar 1))
  (sSeq (sAtt "Table" "rows" 0 (mOp (mListc (mCons (mVar 2) mNil))))
  (sSeq (sAtt "Table" "befell" 0 (mOp (mListc (mCons (mVar 3) mNil))))
  (sAtt "Table" "splits" 0 (mOp (mLc P.it? 4 (mVar 2) tYesB (mOp (mCall f_grown_parts (mCons (mIx (mVar 4) (mC (.int 4))) (mCons (mIx (mVar 4) (mC (.int 3))) mNil)))))))))))))))
def f_Table___init__ : List S → CallR := runF 4 6 m_Table___init__
def m_Table_houses : Env → Fl :=
  (sRet (mUp (mAtt "Table" "size" (mVar 0))))
def f_Table_houses : List S → CallR := runF 1 1 m_Table_houses
def m_Table_covers : Env → Fl :=
  (sRet (mListc (mCons (mAtt "Table" "rows" (mVar 0)) mNil)))
def f_Table_covers : List S → CallR := runF 1 1 m_Table_covers
def m_Table_losses : Env → Fl :=
  (sRet (mListc (mCons (mAtt "Table" "befell" (mVar 0)) mNil)))
def f_Table_losses : List S → CallR := runF 1 1 m_Table_losses
def m_Table_mosts : Env → Fl :=
  (sRet (mLc P.it? 1 (mAtt "Table" "rows" (mVar 0)) tYesB (mIx (mVar 1) (mC (.int 3)))))
def f_Table_mosts : List S → CallR := runF 1 2 m_Table_mosts
def m_look_house : Env → Fl :=
  (sIf (bOr (m2 kLt (mVar 1) (mC (.int 0))) (m2 kGe (mVar 1) (mOp (mMeth "Table" "houses" f_Table_houses (mVar 0) mNil))))
  (sRaise "NoHouse")
  sNil)
def f_look_house : List S → CallR := runF 2 2 m_look_house
def m_Table_more : Env → Fl :=
  (sSeq (sExp (mCall f_look_house (mCons (mVar 0) (mCons (mVar 1) mNil))))
  (sSeq (sOwn 3 (mListc (mCons (mAtt "Table" "befell" (mVar 0)) mNil)))
  (sSeq (sAugI (fun i j => i + j) 3 (mVar 1) (mVar 2))
  (sRet (mMake "Table" f_Table___init__ (mCons (mAtt "Table" "size" (mVar 0)) (mCons (mAtt "Table" "rows" (mVar 0)) (mCons (mVar 3) mNil))))))))
def f_Table_more : List S → CallR := runF 3 4 m_Table_more
def m_Table_loads_l1 : Env → Fl :=
  (sAugI (fun i j => i + j) 2 (mIx (mIx (mVar 5) (mVar 6)) (mC (.int 0))) (mIx (mVar 4) (mVar 6)))
def m_Table_loads_l2 : Env → Fl :=
  (sSeq (sSet 4 (mIx (mIx (mAtt "Table" "splits" (mVar 0)) (mVar 3)) (mIx (mVar 1) (mVar 3))))
  (sSeq (sSet 5 (mIx (mIx (mAtt "Table" "rows" (mVar 0)) (mVar 3)) (mC (.int 4))))
  (sForR kRng1 (mCons (mLen (mCons (mVar 5) mNil)) mNil) (gN 6) m_Table_loads_l1)))
def m_Table_loads : Env → Fl :=
  (sSeq (sOwn 2 (mListc (mCons (mAtt "Table" "befell" (mVar 0)) mNil)))
  (sSeq (sForR kRng1 (mCons (mLen (mCons (mAtt "Table" "rows" (mVar 0)) mNil)) mNil) (gN 3) m_Table_loads_l2)
  (sRetO 2)))
def f_Table_loads : List S → CallR := runF 2 7 m_Table_loads
def m_Table_passed_l1 : Env → Fl :=
  (sSeq (sSet 9 (mOp (mCall f_taken (mCons (mVar 5) (mCons (mVar 6) (mCons (mVar 7) (mCons (mIx (mVar 2) (mVar 4)) mNil)))))))
  (sSeq (sAugI (fun i j => i - j) 2 (mVar 4) (mVar 9))
  (sApp 3 (mVar 9))))
def m_Table_passed : Env → Fl :=
  (sSeq (sOwn 2 (mMeth "Table" "loads" f_Table_loads (mVar 0) (mCons (mVar 1) mNil)))
  (sSeq (sOwn 3 (mLst mNil))
  (sSeq (sFor P.it? (mAtt "Table" "rows" (mVar 0)) (gT (gsCons (gN 4) (gsCons (gN 5) (gsCons (gN 6) (gsCons (gN 7) (gsCons (gN 8) gsNil))))) 5) m_Table_passed_l1)
  (sCold 2 (sCold 3 (sRet (mUp (mTup (mCons (mVar 3) (mCons (mVar 2) mNil))))))))))
def f_Table_passed : List S → CallR := runF 2 10 m_Table_passed
def m_look_account_l1 : Env → Fl :=
  (sIf (bOr (m2 kLt (mIx (mVar 1) (mVar 3)) (mC (.int 0))) (m2 kGt (mIx (mVar 1) (mVar 3)) (mIx (mVar 2) (mVar 3))))
  (sRaise "BadAccount")
  sNil)
def m_look_account : Env → Fl :=
  (sSeq (sSet 2 (mOp (mMeth "Table" "mosts" f_Table_mosts (mVar 0) mNil)))
  (sSeq (sIf (m2 kNe (mLen (mCons (mVar 1) mNil)) (mLen (mCons (mVar 2) mNil)))
  (sRaise "BadAccount")
  sNil)
  (sForR kRng1 (mCons (mLen (mCons (mVar 2) mNil)) mNil) (gN 3) m_look_account_l1)))
def f_look_account : List S → CallR := runF 2 4 m_look_account
def m_asked : Env → Fl :=
  (sSeq (sExp (mCall f_look_account (mCons (mVar 0) (mCons (mVar 1) mNil))))
  (sRet (mUp (mIx (mOp (mMeth "Table" "passed" f_Table_passed (mVar 0) (mCons (mVar 1) mNil))) (mC (.int 0))))))
def f_asked : List S → CallR := runF 2 2 m_asked
def m_law_draws_l1 : Env → Fl :=
  (sIf (m2 kGt (mVar 5) (mC (.int 0)))
  (sSeq (sApp 2 (mI iMod (mVar 5) (mC (.int 997))))
  (sSet 5 (mI iDiv (mVar 5) (mC (.int 997)))))
  sNil)
def m_law_draws_l2 : Env → Fl :=
  (sSeq (sSet 3 (mI iMod (mI iAdd (mI iAdd (mI iMul (mVar 3) (mC (.int 40009))) (mI iMod (mVar 4) (mC (.int 1000033)))) (mC (.int 13))) (mC (.int 2147483629))))
  (sSeq (sSet 5 (mI iSub (mVar 4) (mI iPow (mC (.int 10)) (mC (.int 18)))))
  (sSeq (sIf (m2 kLt (mVar 5) (mC (.int 0)))
  (sApp 2 (mI iMod (mVar 4) (mC (.int 997))))
  sNil)
  (sForR kRng1 (mCons (mC (.int 60)) mNil) (gN 6) m_law_draws_l1))))
def m_law_draws_l3 : Env → Fl :=
  (sSeq (sSet 3 (mI iMod (mI iAdd (mI iAdd (mI iAdd (mI iMul (mVar 3) (mVar 3)) (mI iMul (mC (.int 69621)) (mVar 3))) (mI iMul (mC (.int 7)) (mVar 6))) (mC (.int 5))) (mC (.int 2147483629))))
  (sApp 2 (mI iMod (mI iDiv (mVar 3) (mC (.int 1031))) (mC (.int 997)))))
def m_law_draws : Env → Fl :=
  (sSeq (sOwn 2 (mLst mNil))
  (sSeq (sSet 3 (mC (.int 29)))
  (sSeq (sFor P.it? (mOp (mSlL (mVar 0) mNoP (mPart (mC (.int 63))))) (gN 4) m_law_draws_l2)
  (sSeq (sForR kRng1 (mCons (mVar 1) mNil) (gN 6) m_law_draws_l3)
  (sRet (mSlL (mVar 2) mNoP (mPart (mVar 1))))))))
def f_law_draws : List S → CallR := runF 2 7 m_law_draws
def m_law_whole : Env → Fl :=
  (sRet (mUp (mAnd (mBl (one1 (kIsi "int") (mVar 0))) (mNot (mBl (one1 (kIsi "bool") (mVar 0)))))))
def f_law_whole : List S → CallR := runF 1 1 m_law_whole
def m_law_wholes_l1 : Env → Fl :=
  (sIf (bNot (one1 P.bl? (mOp (mCall f_law_whole (mCons (mVar 2) mNil)))))
  (sRet (mUp (mC (.bl false))))
  sNil)
def m_law_wholes : Env → Fl :=
  (sSeq (sIf (bOr (bNot (one1 P.bl? (mBl (one1 (kIsi "list") (mVar 0))))) (m2 kNe (mLen (mCons (mVar 0) mNil)) (mVar 1)))
  (sRet (mUp (mC (.bl false))))
  sNil)
  (sSeq (sFor P.it? (mVar 0) (gN 2) m_law_wholes_l1)
  (sRet (mUp (mC (.bl true))))))
def f_law_wholes : List S → CallR := runF 2 3 m_law_wholes
def m_law_list : Env → Fl :=
  (sRet (mUp (mAnd (mOp (mCall f_law_wholes (mCons (mVar 0) (mCons (mLen (mCons (mVar 1) mNil)) mNil)))) (mBl (m2 kEq (mVar 0) (mVar 1))))))
def f_law_list : List S → CallR := runF 2 2 m_law_list
def m_law_lines_l1 : Env → Fl :=
  (sSeq (sPopAt 7 3 (mI iMod (mIx (mVar 2) (mI iAdd (mC (.int 1)) (mVar 4))) (mLen (mCons (mVar 3) mNil))))
  (sSeq (sSet 8 (mI iAdd (mC (.int 1)) (mI iMod (mI iDiv (mIx (mVar 2) (mI iAdd (mC (.int 1)) (mVar 4))) (mC (.int 7))) (mC (.int 20)))))
  (sSeq (sIf (m2 kEq (mI iMod (mI iDiv (mIx (mVar 2) (mC (.int 0))) (mC (.int 4))) (mC (.int 3))) (mC (.int 1)))
  (sSet 8 (mI iAdd (mC (.int 1)) (mI iMod (mI iDiv (mIx (mVar 2) (mI iAdd (mC (.int 1)) (mVar 4))) (mC (.int 7))) (mC (.int 3)))))
  sNil)
  (sApp 6 (mTup (mCons (mVar 7) (mCons (mVar 8) mNil)))))))
def m_law_lines : Env → Fl :=
  (sSeq (sOwn 3 (mLcR kRng1 4 (mCons (mVar 0) mNil) (m2 kNe (mVar 4) (mVar 1)) (mVar 4)))
  (sSeq (sSet 5 (mI iAdd (mC (.int 1)) (mI iMod (mIx (mVar 2) (mC (.int 0))) (mMin2 (mCons (mC (.int 4)) (mCons (mLen (mCons (mVar 3) mNil)) mNil))))))
  (sSeq (sOwn 6 (mLst mNil))
  (sSeq (sForR kRng1 (mCons (mVar 5) mNil) (gN 4) m_law_lines_l1)
  (sRet (mUp (mTupc (mCons (mVar 6) mNil))))))))
def f_law_lines : List S → CallR := runF 3 9 m_law_lines
def m_law_cover : Env → Fl :=
  (sSeq (sSet 2 (mI iMod (mIx (mVar 1) (mC (.int 0))) (mVar 0)))
  (sSeq (sSet 3 (mIx (mOp (mLst (mCons (mC (.str "share")) (mCons (mC (.str "layer")) mNil)))) (mI iMod (mIx (mVar 1) (mC (.int 1))) (mC (.int 2)))))
  (sSeq (sSet 4 (mI iMod (mIx (mVar 1) (mC (.int 2))) (mC (.int 201))))
  (sSeq (sIf (m2 kEq (mI iMod (mI iDiv (mIx (mVar 1) (mC (.int 1))) (mC (.int 2))) (mC (.int 3))) (mC (.int 1)))
  (sSet 4 (mI iMod (mIx (mVar 1) (mC (.int 2))) (mC (.int 9))))
  sNil)
  (sSeq (sIf (m2 kEq (mVar 3) (mC (.str "share")))
  (sSet 4 (mIx (mOp (mLst (mCons (mI iAdd (mC (.int 1)) (mI iMod (mIx (mVar 1) (mC (.int 2))) (mC (.int 100)))) (mCons (mC (.int 100)) (mCons (mI iAdd (mC (.int 50)) (mI iMod (mIx (mVar 1) (mC (.int 2))) (mC (.int 50)))) mNil))))) (mI iMod (mI iDiv (mIx (mVar 1) (mC (.int 1))) (mC (.int 2))) (mC (.int 3)))))
  sNil)
  (sSeq (sSet 5 (mI iMod (mIx (mVar 1) (mC (.int 3))) (mC (.int 25))))
  (sRet (mUp (mTup (mCons (mVar 2) (mCons (mVar 3) (mCons (mVar 4) (mCons (mVar 5) (mCons (mOp (mCall f_law_lines (mCons (mVar 0) (mCons (mVar 2) (mCons (mOp (mSlL (mVar 1) (mPart (mC (.int 4))) (mPart (mC (.int 9))))) mNil))))) mNil))))))))))))))
def f_law_cover : List S → CallR := runF 2 6 m_law_cover
def m_law_rows : Env → Fl :=
  (sSeq (sIf (m2 kEq (mVar 0) (mC (.int 1)))
  (sRet (mLst mNil))
  sNil)
  (sSeq (sSet 2 (mI iMod (mIx (mVar 1) (mC (.int 0))) (mC (.int 11))))
  (sSeq (sSet 3 (mOp (mLcR kRng1 4 (mCons (mVar 2) mNil) tYesB (mOp (mCall f_law_cover (mCons (mVar 0) (mCons (mOp (mSlL (mVar 1) (mPart (mI iAdd (mC (.int 1)) (mI iMul (mC (.int 9)) (mVar 4)))) (mPart (mI iAdd (mC (.int 10)) (mI iMul (mC (.int 9)) (mVar 4)))))) mNil)))))))
  (sSeq (sIf (m2 kEq (mI iMod (mI iDiv (mIx (mVar 1) (mC (.int 0))) (mC (.int 11))) (mC (.int 6))) (mC (.int 1)))
  (sSet 3 (mOp (mLcR kRng1 4 (mCons (mVar 2) mNil) tYesB (mIx (mVar 3) (mI iDiv (mVar 4) (mC (.int 2)))))))
  sNil)
  (sRet (mUp (mVar 3)))))))
def f_law_rows : List S → CallR := runF 2 5 m_law_rows
def m_law_losses_l1 : Env → Fl :=
  (sSeq (sSet 4 (mIx (mVar 1) (mI iAdd (mC (.int 1)) (mVar 3))))
  (sApp 2 (mIx (mOp (mLst (mCons (mC (.int 0)) (mCons (mI iMod (mVar 4) (mC (.int 12))) (mCons (mI iMod (mVar 4) (mC (.int 90))) (mCons (mI iMod (mVar 4) (mC (.int 300))) (mCons (mI iMod (mI iMul (mVar 4) (mC (.int 9))) (mC (.int 10000))) mNil))))))) (mI iMod (mI iAdd (mIx (mVar 1) (mC (.int 0))) (mI iDiv (mVar 4) (mC (.int 300)))) (mC (.int 5))))))
def m_law_losses : Env → Fl :=
  (sSeq (sOwn 2 (mLst mNil))
  (sSeq (sForR kRng1 (mCons (mVar 0) mNil) (gN 3) m_law_losses_l1)
  (sRetO 2)))
def f_law_losses : List S → CallR := runF 2 5 m_law_losses
def m_law_made : Env → Fl :=
  (sSeq (sSet 1 (mI iAdd (mC (.int 1)) (mI iMod (mI iAdd (mIx (mVar 0) (mC (.int 0))) (mC (.int 3))) (mC (.int 6)))))
  (sRet (mUp (mTup (mCons (mVar 1) (mCons (mOp (mCall f_law_rows (mCons (mVar 1) (mCons (mOp (mSlL (mVar 0) (mPart (mC (.int 8))) (mPart (mC (.int 99))))) mNil)))) (mCons (mOp (mCall f_law_losses (mCons (mVar 1) (mCons (mOp (mSlL (mVar 0) (mPart (mC (.int 1))) (mPart (mC (.int 8))))) mNil)))) mNil)))))))
def f_law_made : List S → CallR := runF 1 2 m_law_made
def m_law_split_l1 : Env → Fl :=
  (sSeq (sSet 7 (mI iMul (mI iAdd (mIx (mVar 2) (mVar 6)) (mC (.int 1))) (mIx (mIx (mVar 0) (mVar 5)) (mC (.int 1)))))
  (sIf (m2 kLt (mVar 7) (mI iMul (mI iAdd (mIx (mVar 2) (mVar 5)) (mC (.int 1))) (mIx (mIx (mVar 0) (mVar 6)) (mC (.int 1)))))
  (sSet 5 (mVar 6))
  sNil))
def m_law_split_l2 : Env → Fl :=
  (sSeq (sSet 5 (mC (.int 0)))
  (sSeq (sForR kRng1 (mCons (mLen (mCons (mVar 0) mNil)) mNil) (gN 6) m_law_split_l1)
  (sSeq (sIt 2 (mVar 5) (mI iAdd (mIx (mVar 2) (mVar 5)) (mC (.int 1))))
  (sApp 3 (mOp (mListc (mCons (mVar 2) mNil)))))))
def m_law_split : Env → Fl :=
  (sSeq (sOwn 2 (mRep (mOp (mLst (mCons (mC (.int 0)) mNil))) (mLen (mCons (mVar 0) mNil))))
  (sSeq (sOwn 3 (mLst (mCons (mOp (mListc (mCons (mVar 2) mNil))) mNil)))
  (sSeq (sForR kRng1 (mCons (mVar 1) mNil) (gN 4) m_law_split_l2)
  (sRetO 3))))
def f_law_split : List S → CallR := runF 2 8 m_law_split
def m_law_splits : Env → Fl :=
  (sRet (mLc P.it? 1 (mVar 0) tYesB (mOp (mCall f_law_split (mCons (mIx (mVar 1) (mC (.int 4))) (mCons (mIx (mVar 1) (mC (.int 3))) mNil))))))
def f_law_splits : List S → CallR := runF 1 2 m_law_splits
def m_law_loads_l1 : Env → Fl :=
  (sSeq (sSet 9 (mIx (mIx (mVar 6) (mVar 8)) (mC (.int 0))))
  (sIt 4 (mVar 9) (mI iAdd (mIx (mVar 4) (mVar 9)) (mIx (mVar 7) (mVar 8)))))
def m_law_loads_l2 : Env → Fl :=
  (sSeq (sSet 6 (mIx (mIx (mVar 0) (mVar 5)) (mC (.int 4))))
  (sSeq (sSet 7 (mIx (mIx (mVar 2) (mVar 5)) (mIx (mVar 3) (mVar 5))))
  (sForR kRng1 (mCons (mLen (mCons (mVar 6) mNil)) mNil) (gN 8) m_law_loads_l1)))
def m_law_loads : Env → Fl :=
  (sSeq (sOwn 4 (mListc (mCons (mVar 1) mNil)))
  (sSeq (sForR kRng1 (mCons (mLen (mCons (mVar 0) mNil)) mNil) (gN 5) m_law_loads_l2)
  (sRetO 4)))
def f_law_loads : List S → CallR := runF 4 10 m_law_loads
def m_law_take : Env → Fl :=
  (sSeq (sIf (m2 kEq (mVar 0) (mC (.str "share")))
  (sRet (mUp (mMin2 (mCons (mVar 2) (mCons (mI iDiv (mI iMul (mVar 3) (mVar 1)) (mC (.int 100))) mNil)))))
  sNil)
  (sSeq (sIf (m2 kLe (mVar 3) (mVar 1))
  (sRet (mUp (mC (.int 0))))
  sNil)
  (sRet (mUp (mMin2 (mCons (mVar 2) (mCons (mI iSub (mVar 3) (mVar 1)) mNil)))))))
def f_law_take : List S → CallR := runF 4 4 m_law_take
def m_law_passed_l1 : Env → Fl :=
  (sSeq (sSet 11 (mOp (mCall f_law_take (mCons (mVar 7) (mCons (mVar 8) (mCons (mVar 9) (mCons (mIx (mVar 4) (mVar 6)) mNil)))))))
  (sSeq (sIt 4 (mVar 6) (mI iSub (mIx (mVar 4) (mVar 6)) (mVar 11)))
  (sApp 5 (mVar 11))))
def m_law_passed : Env → Fl :=
  (sSeq (sOwn 4 (mCall f_law_loads (mCons (mVar 0) (mCons (mVar 1) (mCons (mVar 2) (mCons (mVar 3) mNil))))))
  (sSeq (sOwn 5 (mLst mNil))
  (sSeq (sFor P.it? (mVar 0) (gT (gsCons (gN 6) (gsCons (gN 7) (gsCons (gN 8) (gsCons (gN 9) (gsCons (gN 10) gsNil))))) 5) m_law_passed_l1)
  (sCold 4 (sCold 5 (sRet (mUp (mTup (mCons (mVar 5) (mCons (mVar 4) mNil))))))))))
def f_law_passed : List S → CallR := runF 4 12 m_law_passed
def m_law_account : Env → Fl :=
  (sRet (mLcR kRng1 2 (mCons (mLen (mCons (mVar 0) mNil)) mNil) tYesB (mI iMod (mIx (mVar 1) (mVar 2)) (mI iAdd (mIx (mIx (mVar 0) (mVar 2)) (mC (.int 3))) (mC (.int 1))))))
def f_law_account : List S → CallR := runF 2 3 m_law_account
def m_law : Env → Fl :=
  (sSeq (sSet 1 (mOp (mCall f_law_draws (mCons (mVar 0) (mCons (mC (.int 120)) mNil)))))
  (sSeq (sUnp (gT (gsCons (gN 2) (gsCons (gN 3) (gsCons (gN 4) gsNil))) 3) (mOp (mCall f_law_made (mCons (mVar 1) mNil))))
  (sSeq (sIf (bAnd (m2 kGt (mVar 2) (mC (.int 1))) (m2 kEq (mI iMod (mIx (mVar 1) (mC (.int 111))) (mC (.int 3))) (mC (.int 1))))
  (sSet 3 (mOp (mLc P.it? 5 (mVar 3) tYesB (mTup (mCons (mC (.int 0)) (mCons (mC (.str "layer")) (mCons (mIx (mVar 5) (mC (.int 2))) (mCons (mIx (mVar 5) (mC (.int 3))) (mCons (mTup (mCons (mTup (mCons (mI iAdd (mC (.int 1)) (mI iMod (mIx (mVar 5) (mC (.int 0))) (mI iSub (mVar 2) (mC (.int 1))))) (mCons (mC (.int 5)) mNil))) mNil)) mNil)))))))))
  sNil)
  (sSeq (sSet 6 (mOp (mCall f_law_account (mCons (mVar 3) (mCons (mOp (mSlL (mVar 1) (mPart (mC (.int 100))) (mPart (mC (.int 110))))) mNil)))))
  (sSeq (sSet 7 (mIx (mOp (mCall f_law_passed (mCons (mVar 3) (mCons (mVar 4) (mCons (mOp (mCall f_law_splits (mCons (mVar 3) mNil))) (mCons (mVar 6) mNil)))))) (mC (.int 0))))
  (sSeq (sSet 8 (mOp (mListc (mCons (mVar 6) mNil))))
  (sSeq (sSet 9 (mOp (mCall f_asked (mCons (mOp (mMake "Table" f_Table___init__ (mCons (mVar 2) (mCons (mVar 3) (mCons (mVar 4) mNil))))) (mCons (mVar 8) mNil)))))
  (sRet (mUp (mAnd (mBl (m2 kEq (mVar 8) (mVar 6))) (mOp (mCall f_law_list (mCons (mVar 9) (mCons (mVar 7) mNil))))))))))))))
def f_law : List S → CallR := runF 1 10 m_law
end RC
set_option Elab.async false
set_option linter.all false
set_option maxRecDepth 100000
set_option maxHeartbeats 1000000
namespace RC
open PySem PySem.Spec PyProof.Rows L2
theorem draws_l1 {s0 s1 s3 s4 s6 : S} {row : List Int} {rest : Int} (hr : Row row) (hl : row.length ≤ 10000) (h6 : s6.free = true) :
    ∃ row' rest' s6', Row row' ∧ row'.length ≤ row.length + 60 ∧ S.free s6' = true ∧
      forD (gN 6) m_law_draws_l1 (rngD 0 60) [s0, s1, .ow (.lst (row.map D.int)), s3, s4, .fz (.int rest), s6] = .nx [s0, s1, .ow (.lst (row'.map D.int)), s3, s4, .fz (.int rest'), s6'] := by
  obtain ⟨e', h1, row', rest', s6', a1, a2, a3, a4⟩ := forD_inv (g := gN 6) (b := m_law_draws_l1) (ds := rngD 0 60) (env := [s0, s1, .ow (.lst (row.map D.int)), s3, s4, .fz (.int rest), s6])
    (fun i e => ∃ row' rest' s6', Row row' ∧ row'.length ≤ row.length + i ∧ S.free s6' = true ∧ e = [s0, s1, .ow (.lst (row'.map D.int)), s3, s4, .fz (.int rest'), s6'])
    ⟨row, rest, s6, hr, by omega, h6, rfl⟩ (fun i d e hd ⟨row', rest', s6', a1, a2, a3, a4⟩ => by
      obtain ⟨hi, rfl⟩ := rngD_at hd
      subst a4
      by_cases hp : 0 < rest'
      · refine ⟨[s0, s1, .ow (.lst (row'.map D.int)), s3, s4, .fz (.int rest'), .fz (.int (0 + (i : Int)))], [s0, s1, .ow (.lst ((row' ++ [rest' % 997]).map D.int)), s3, s4, .fz (.int (rest' / 997)), .fz (.int (0 + (i : Int)))], by simp [a3], .inl ?_, row' ++ [rest' % 997], rest' / 997, _, a1.app (by omega) (by omega), by simp; omega, rfl, rfl⟩
        have k1 : row'.length < 16777216 := by omega
        have k2 : iMod rest' 997 = some (rest' % 997) := iMod_pos (by omega)
        have k3 : iDiv rest' 997 = some (rest' / 997) := iDiv_pos (by omega) (by omega)
        simp [m_law_draws_l1, hp, k1, k2, k3]
      · refine ⟨[s0, s1, .ow (.lst (row'.map D.int)), s3, s4, .fz (.int rest'), .fz (.int (0 + (i : Int)))], [s0, s1, .ow (.lst (row'.map D.int)), s3, s4, .fz (.int rest'), .fz (.int (0 + (i : Int)))], by simp [a3], .inl ?_, row', rest', _, a1, by omega, rfl, rfl⟩
        simp [m_law_draws_l1, hp])
  exact ⟨row', rest', s6', a1, a2, a3, by rw [h1, a4]⟩
theorem draws_l2 {s0 s1 s5 s6 : S} {row : List Int} {seed c : Int} (hr : Row row) (hl : row.length ≤ 9000) (hs : 0 ≤ seed ∧ seed < 2147483629) (h5 : s5.free = true) (h6 : s6.free = true) :
    ∃ row' seed' rest' s6', Row row' ∧ row'.length ≤ row.length + 61 ∧ S.free s6' = true ∧ (0 ≤ seed' ∧ seed' < 2147483629) ∧
      m_law_draws_l2 [s0, s1, .ow (.lst (row.map D.int)), .fz (.int seed), .fz (.int c), s5, s6] = .nx [s0, s1, .ow (.lst (row'.map D.int)), .fz (.int seed'), .fz (.int c), .fz (.int rest'), s6'] := by
  have k1 : iMul seed 40009 = some (seed * 40009) := iMul_l (by omega) (by omega)
  have k2 : iMod c 1000033 = some (c % 1000033) := iMod_pos (by omega)
  have k3 : ∀ x, iMod x 2147483629 = some (x % 2147483629) := fun x => iMod_pos (by omega)
  have k4 : kRng1 [.fz (.int 60)] = some (0, 60) := kRng1_nat (n := 60) (by omega)
  have k5 : iMod c 997 = some (c % 997) := iMod_pos (by omega)
  have k6 : row.length < 16777216 := by omega
  have b : 0 ≤ (seed * 40009 + c % 1000033 + 13) % 2147483629 ∧ (seed * 40009 + c % 1000033 + 13) % 2147483629 < 2147483629 := ⟨Int.emod_nonneg _ (by omega), Int.emod_lt_of_pos _ (by omega)⟩
  generalize hg : (seed * 40009 + c % 1000033 + 13) % 2147483629 = seed' at b
  by_cases hp : c - 1000000000000000000 < 0
  · obtain ⟨row', rest', s6', a1, a2, a3, a4⟩ := draws_l1 (s0 := s0) (s1 := s1) (s3 := .fz (.int seed')) (s4 := .fz (.int c)) (rest := c - 1000000000000000000) (hr.app (d := c % 997) (by omega) (by omega)) (by simp; omega) h6
    refine ⟨row', seed', rest', s6', a1, ?_, a3, b, ?_⟩
    · simp at a2; omega
    · rw [List.map_append, List.map_cons, List.map_nil] at a4
      simp [m_law_draws_l2, k1, k2, k3, k4, k5, k6, iPow18, h5, hg, hp, a4]
  · obtain ⟨row', rest', s6', a1, a2, a3, a4⟩ := draws_l1 (s0 := s0) (s1 := s1) (s3 := .fz (.int seed')) (s4 := .fz (.int c)) (rest := c - 1000000000000000000) hr (by omega) h6
    refine ⟨row', seed', rest', s6', a1, by omega, a3, b, ?_⟩
    simp [m_law_draws_l2, k1, k2, k3, k4, k5, k6, iPow18, h5, hg, hp, a4]
theorem draws_l3 {s0 s1 s4 s5 : S} {row : List Int} {seed : Int} {k : Nat} (hr : Row row) (hl : row.length ≤ 20000) (hk : k ≤ 10000) (hs : 0 ≤ seed ∧ seed < 2147483629) :
    ∃ d seed', (0 ≤ d ∧ d ≤ 996) ∧ (0 ≤ seed' ∧ seed' < 2147483629) ∧
      m_law_draws_l3 [s0, s1, .ow (.lst (row.map D.int)), .fz (.int seed), s4, s5, .fz (.int (0 + (k : Int)))] = .nx [s0, s1, .ow (.lst ((row ++ [d]).map D.int)), .fz (.int seed'), s4, s5, .fz (.int (0 + (k : Int)))] := by
  have k1 : iMul seed seed = some (seed * seed) := iMul_l (by omega) (by omega)
  have k2 : iMul 69621 seed = some (69621 * seed) := iMul_l (by omega) (by omega)
  have k2' : iMul 7 (0 + (k : Int)) = some (7 * (0 + (k : Int))) := iMul_l (by omega) (by omega)
  have k3 : ∀ x, iMod x 2147483629 = some (x % 2147483629) := fun x => iMod_pos (by omega)
  have k5 : ∀ x, iMod x 997 = some (x % 997) := fun x => iMod_pos (by omega)
  have k4 : ∀ x, iDiv x 1031 = some (x / 1031) := fun x => iDiv_pos (by omega) (by omega)
  have k6 : row.length < 16777216 := by omega
  generalize hg : (seed * seed + 69621 * seed + 7 * (0 + (k : Int)) + 5) % 2147483629 = seed'
  have b : 0 ≤ seed' ∧ seed' < 2147483629 := by rw [← hg]; exact ⟨Int.emod_nonneg _ (by omega), Int.emod_lt_of_pos _ (by omega)⟩
  refine ⟨seed' / 1031 % 997, seed', ⟨by omega, by omega⟩, b, ?_⟩
  generalize hz : (0 + (k : Int)) = z at k2' hg
  simp [m_law_draws_l3, k1, k2, k2', k3, k4, k5, k6, hg]
theorem draws_eq (ns : List Int) (hn : ns.length ≤ 63) (many : Nat) (hm : many ≤ 10000) :
    ∃ ds : List Int, ds.length = many ∧ Row ds ∧ f_law_draws [.fz (.scr ns), .fz (.int (many : Int))] = .ok (.tmp (.lst (ds.map D.int))) none := by
  have hc : cutD (ns.map D.int) none (some 63) = ns.map D.int := by
    have h63 : ((63 : Int)) = ((63 : Nat) : Int) := rfl
    unfold cutD
    rw [h63, HT.sIx_nat]
    apply List.take_of_length_le
    simp [HT.sIx]
    omega
  obtain ⟨e1, h1, row, seed, s4, s5, s6, a1, a2, a3, a4, a5, a6, a7⟩ := forD_inv (g := gN 4) (b := m_law_draws_l2) (ds := ns.map D.int) (env := [.fz (.scr ns), .fz (.int (many : Int)), .ow (.lst []), .fz (.int 29), .un, .un, .un])
    (fun i e => ∃ row seed s4 s5 s6, Row row ∧ row.length ≤ 61 * i ∧ (0 ≤ seed ∧ seed < 2147483629) ∧ S.free s4 = true ∧ S.free s5 = true ∧ S.free s6 = true ∧ e = [.fz (.scr ns), .fz (.int (many : Int)), .ow (.lst (row.map D.int)), .fz (.int seed), s4, s5, s6])
    ⟨[], 29, .un, .un, .un, fun _ h => absurd h List.not_mem_nil, by simp, by omega, rfl, rfl, rfl, rfl⟩ (fun i d e hd ⟨row, seed, s4, s5, s6, a1, a2, a3, a4, a5, a6, a7⟩ => by
      subst a7
      have hi : i < ns.length := by have := (List.getElem?_eq_some_iff.mp hd).1; simpa using this
      rw [List.getElem?_map, List.getElem?_eq_getElem hi] at hd
      obtain rfl := Option.some.inj hd
      obtain ⟨row', seed', rest', s6', b1, b2, b3, b4, b5⟩ := draws_l2 (s0 := .fz (.scr ns)) (s1 := .fz (.int (many : Int))) (c := ns[i]) a1 (by omega) a3 a5 a6
      exact ⟨[.fz (.scr ns), .fz (.int (many : Int)), .ow (.lst (row.map D.int)), .fz (.int seed), .fz (.int ns[i]), s5, s6], _, by simp [a4], .inl b5, row', seed', _, _, s6', b1, by omega, b4, rfl, rfl, b3, rfl⟩)
  subst a7
  rw [List.length_map] at a2
  obtain ⟨e2, h2, row2, seed2, s62, c1, c2, c3, c4, c5⟩ := forD_inv (g := gN 6) (b := m_law_draws_l3) (ds := rngD 0 many) (env := [.fz (.scr ns), .fz (.int (many : Int)), .ow (.lst (row.map D.int)), .fz (.int seed), s4, s5, s6])
    (fun i e => ∃ row2 seed s6, Row row2 ∧ row2.length = row.length + i ∧ (0 ≤ seed ∧ seed < 2147483629) ∧ S.free s6 = true ∧ e = [.fz (.scr ns), .fz (.int (many : Int)), .ow (.lst (row2.map D.int)), .fz (.int seed), s4, s5, s6])
    ⟨row, seed, s6, a1, by omega, a3, a6, rfl⟩ (fun i d e hd ⟨row2, seed2, s62, c1, c2, c3, c4, c5⟩ => by
      obtain ⟨hi, rfl⟩ := rngD_at hd
      subst c5
      obtain ⟨d, seed', b1, b2, b3⟩ := draws_l3 (s0 := .fz (.scr ns)) (s1 := .fz (.int (many : Int))) (s4 := s4) (s5 := s5) (k := i) c1 (by omega) (by omega) c3
      exact ⟨[.fz (.scr ns), .fz (.int (many : Int)), .ow (.lst (row2.map D.int)), .fz (.int seed2), s4, s5, .fz (.int (0 + (i : Int)))], _, by simp [c4], .inl b3, row2 ++ [d], seed', _, c1.app b1.1 b1.2, by simp; omega, b2, rfl, rfl⟩)
  subst c5
  rw [rngD_len] at c2
  refine ⟨row2.take many, by rw [List.length_take]; omega, fun d hd => c1 d (List.mem_of_mem_take hd), ?_⟩
  refine runF_rt rfl (by decide) (e := [.fz (.scr ns), .fz (.int (many : Int)), .ow (.lst (row2.map D.int)), .fz (.int seed2), s4, s5, s62]) ?_ (fun l o z => by cases z)
  have k1 : cutD (row2.map D.int) none (some (many : Int)) = (row2.take many).map D.int := by
    rw [cut_to (by simp; omega), List.map_take]
  have k2 : kRng1 [.fz (.int (many : Int))] = some (0, many) := kRng1_nat (by omega)
  show m_law_draws [.fz (.scr ns), .fz (.int (many : Int)), .un, .un, .un, .un, .un] = _
  simp [m_law_draws, kSlL_scr, kSlL_bor, hc, h1, h2, k1, k2]
def lW (ls : Ln) (i : Nat) : Int := (ls.getD i (0, 0)).2
def pick (ls : Ln) (bs : List Int) (best at_ : Nat) : Nat := if (bI bs at_ + 1) * lW ls best < (bI bs best + 1) * lW ls at_ then at_ else best
def foremost (ls : Ln) (bs : List Int) : Nat := (List.range ls.length).foldl (pick ls bs) 0
theorem get_pair {ls : Ln} {i : Nat} (h : i < ls.length) : (ls.map pairD)[i]? = some (.tup [.int (ls.getD i (0, 0)).1, .int (lW ls i)]) := by
  rw [List.getElem?_map]; unfold lW; rw [List.getD_eq_getElem?_getD, List.getElem?_eq_getElem h]; rfl
/-- the bills stay small -/
def Small (bs : List Int) : Prop := ∀ b ∈ bs, 0 ≤ b ∧ b ≤ 1000
theorem Small.at {bs : List Int} (h : Small bs) (i : Nat) : 0 ≤ bI bs i ∧ bI bs i ≤ 1000 := by
  unfold bI
  rw [List.getD_eq_getElem?_getD]
  cases hi : bs[i]? with
  | none => simp
  | some b => exact h b (List.mem_of_getElem? hi)
theorem pick_lt {ls : Ln} {bs : List Int} {b a : Nat} (hb : b < ls.length) (ha : a < ls.length) : pick ls bs b a < ls.length := by unfold pick; split <;> assumption
theorem foremost_body {ls : Ln} {bs : List Int} {best at_ : Nat} {s1 : S} {o : P} (hv : varK 1 (some s1) = .ok o) (ho : o.seq? = some (bs.map D.int)) (hb : best < ls.length) (ha : at_ < ls.length) (hl : bs.length = ls.length) (sm : Small bs) :
    m_foremost_l1 [.fz (linesD ls), s1, .fz (.int best), .fz (.int at_)] = .nx [.fz (linesD ls), s1, .fz (.int (pick ls bs best at_ : Nat)), .fz (.int at_)] := by
  have i1 : kIx o (.fz (.int at_)) = some (.int (bI bs at_)) := kIx_ok ho rfl (get_bI (by omega))
  have i2 : kIx o (.fz (.int best)) = some (.int (bI bs best)) := kIx_ok ho rfl (get_bI (by omega))
  have i3 : kIx (.fz (linesD ls)) (.fz (.int at_)) = some (.tup [.int (ls.getD at_ (0, 0)).1, .int (lW ls at_)]) := kIx_ok rfl rfl (get_pair ha)
  have i4 : kIx (.fz (linesD ls)) (.fz (.int best)) = some (.tup [.int (ls.getD best (0, 0)).1, .int (lW ls best)]) := kIx_ok rfl rfl (get_pair hb)
  have b1 := sm.at at_
  have b2 := sm.at best
  have m1 : ∀ x, iMul (bI bs at_ + 1) x = some ((bI bs at_ + 1) * x) := fun x => iMul_l (by omega) (by omega)
  have m2' : ∀ x, iMul (bI bs best + 1) x = some ((bI bs best + 1) * x) := fun x => iMul_l (by omega) (by omega)
  simp [m_foremost_l1, hv, i1, i2, i3, i4, m1, m2', pick]
  split <;> rfl
def foldp (ls : Ln) (bs : List Int) (lo n : Nat) (b : Nat) : Nat := (List.range' lo n).foldl (pick ls bs) b
theorem foremost_eq {ls : Ln} {bs : List Int} {s1 : S} {o : P} (hv : varK 1 (some s1) = .ok o) (ho : o.seq? = some (bs.map D.int)) (g : GoodL ls) (hl : bs.length = ls.length) (sm : Small bs) :
    f_foremost [.fz (linesD ls), s1] = .ok (.fz (.int (foremost ls bs : Nat))) none := by
  have hp : 0 < ls.length := List.length_pos_iff.mpr g.pos
  have hf := g.few
  obtain ⟨e', h1, s3, h2⟩ := forD_inv (g := gN 3) (b := m_foremost_l1) (ds := rngD 1 (ls.length - 1)) (env := [.fz (linesD ls), s1, .fz (.int 0), .un])
    (fun i e => ∃ s3, S.free s3 = true ∧ foldp ls bs 0 (i + 1) 0 < ls.length ∧ e = [.fz (linesD ls), s1, .fz (.int (foldp ls bs 0 (i + 1) 0 : Nat)), s3])
    ⟨.un, rfl, by simp [foldp, pick]; exact hp, by simp [foldp, pick]⟩ (fun i d e hd ⟨s3, h3, h4, h5⟩ => by
      obtain ⟨hi, rfl⟩ := rngD_at hd
      subst h5
      refine ⟨[.fz (linesD ls), s1, .fz (.int (foldp ls bs 0 (i + 1) 0 : Nat)), .fz (.int ((i + 1 : Nat) : Int))], [.fz (linesD ls), s1, .fz (.int (pick ls bs (foldp ls bs 0 (i + 1) 0) (i + 1) : Nat)), .fz (.int ((i + 1 : Nat) : Int))], ?_, .inl (foremost_body hv ho h4 (by omega) hl sm), .fz (.int ((i + 1 : Nat) : Int)), rfl, ?_, ?_⟩
      · simp [h3]; omega
      · have : foldp ls bs 0 (i + 1 + 1) 0 = pick ls bs (foldp ls bs 0 (i + 1) 0) (i + 1) := by unfold foldp; rw [List.range'_concat]; simp
        rw [this]; exact pick_lt h4 (by omega)
      · have : foldp ls bs 0 (i + 1 + 1) 0 = pick ls bs (foldp ls bs 0 (i + 1) 0) (i + 1) := by unfold foldp; rw [List.range'_concat]; simp
        rw [this])
  obtain ⟨_, h6, h7⟩ := h2
  subst h7
  have e1 : foldp ls bs 0 ((rngD 1 (ls.length - 1)).length + 1) 0 = foremost ls bs := by
    rw [rngD_len, Nat.sub_add_cancel hp]; unfold foldp foremost; rw [List.range_eq_range']
  rw [e1] at h1
  have kl : kLen [.fz (linesD ls)] = some (ls.length : Int) := by simp [kLen, linesD]
  have kr : kRng2 [.fz (.int 1), .fz (.int (ls.length : Int))] = some (1, ls.length - 1) := by
    have ht : ((ls.length : Int) - 1).toNat = ls.length - 1 := by omega
    rw [kRng2_int ⟨by omega, by omega, by omega, by omega⟩, ht]
  refine runF_rt rfl (by decide) (e := [.fz (linesD ls), s1, .fz (.int (foremost ls bs : Nat)), s3]) ?_ (fun l o z => by cases z)
  simp [m_foremost, kl, kr, h1, List.replicate]
/-! dealing crown by crown -/
theorem fold_lt {ls : Ln} {bs : List Int} : ∀ (xs : List Nat) (b : Nat), (∀ x ∈ xs, x < ls.length) → b < ls.length → xs.foldl (pick ls bs) b < ls.length
  | [], b, _, h => h
  | x :: xs, b, hx, h => fold_lt xs _ (fun y hy => hx y (List.mem_cons_of_mem _ hy)) (pick_lt h (hx x List.mem_cons_self))
theorem foremost_lt {ls : Ln} {bs : List Int} (g : GoodL ls) : foremost ls bs < ls.length :=
  fold_lt _ _ (fun x hx => List.mem_range.mp hx) (List.length_pos_iff.mpr g.pos)
def deal (ls : Ln) (bs : List Int) : List Int := bs.set (foremost ls bs) (bI bs (foremost ls bs) + 1)
def dealt (ls : Ln) : Nat → List Int
  | 0 => List.replicate ls.length 0
  | n + 1 => deal ls (dealt ls n)
theorem dealt_len (ls : Ln) : ∀ n, (dealt ls n).length = ls.length
  | 0 => by simp [dealt]
  | n + 1 => by simp [dealt, deal, dealt_len ls n]
theorem dealt_le (ls : Ln) : ∀ n b, b ∈ dealt ls n → 0 ≤ b ∧ b ≤ (n : Int)
  | 0, b, h => by
    have := (List.mem_replicate.mp h).2
    omega
  | n + 1, b, h => by
    rcases List.mem_or_eq_of_mem_set h with h | h
    · have := dealt_le ls n b h; omega
    · have : 0 ≤ bI (dealt ls n) (foremost ls (dealt ls n)) ∧ bI (dealt ls n) (foremost ls (dealt ls n)) ≤ (n : Int) := by
        unfold bI
        rw [List.getD_eq_getElem?_getD]
        cases hi : (dealt ls n)[foremost ls (dealt ls n)]? with
        | none => simp
        | some b => exact dealt_le ls n b (List.mem_of_getElem? hi)
      omega
theorem dealt_small (ls : Ln) {n : Nat} (hn : n ≤ 1000) : Small (dealt ls n) := fun b hb => by
  have := dealt_le ls n b hb; omega
def rowsOf (ls : Ln) (n : Nat) : List (List Int) := (List.range (n + 1)).map (dealt ls)
theorem rowsOf_len (ls : Ln) (n : Nat) : (rowsOf ls n).length = n + 1 := by simp [rowsOf]
theorem rowsOf_get (ls : Ln) {n k : Nat} (h : k ≤ n) : (rowsOf ls n)[k]? = some (dealt ls k) := by
  unfold rowsOf; rw [List.getElem?_map, List.getElem?_range (by omega)]; rfl
theorem rowsOf_succ (ls : Ln) (n : Nat) : rowsOf ls (n + 1) = rowsOf ls n ++ [dealt ls (n + 1)] := by
  unfold rowsOf; rw [List.range_succ]; simp
theorem kLen_lines (ls : Ln) : kLen [.fz (linesD ls)] = some (ls.length : Int) := by simp [linesD]
theorem grown_parts_eq {ls : Ln} (g : GoodL ls) {n : Nat} (hn : n ≤ 1000) : f_grown_parts [.fz (linesD ls), .fz (.int (n : Int))] = .ok (.tmp (.lst ((rowsOf ls n).map intsD))) none := by
  have hf := g.few
  obtain ⟨e', h1, s4, h4, h2⟩ := forD_inv (g := gN 4) (b := m_grown_parts_l1) (ds := rngD 0 n) (env := [.fz (linesD ls), .fz (.int (n : Int)), .ow (.lst ((dealt ls 0).map D.int)), .ow (.lst ((rowsOf ls 0).map intsD)), .un])
    (fun i e => ∃ s4, S.free s4 = true ∧ e = [.fz (linesD ls), .fz (.int (n : Int)), .ow (.lst ((dealt ls i).map D.int)), .ow (.lst ((rowsOf ls i).map intsD)), s4])
    ⟨.un, rfl, rfl⟩ (fun i d e hd ⟨s4, h4, h5⟩ => by
      obtain ⟨hi, rfl⟩ := rngD_at hd
      subst h5
      have hl := dealt_len ls i
      have hlt : foremost ls (dealt ls i) < ls.length := foremost_lt g
      have fe : f_foremost [.fz (linesD ls), .rd (.lst ((dealt ls i).map D.int))] = .ok (.fz (.int (foremost ls (dealt ls i) : Nat))) none :=
        foremost_eq (o := .bor .amb (.lst ((dealt ls i).map D.int))) rfl rfl g hl (dealt_small ls (by omega))
      have au : augAt ((dealt ls i).map D.int) (.fz (.int (foremost ls (dealt ls i) : Nat))) = some (foremost ls (dealt ls i), bI (dealt ls i) (foremost ls (dealt ls i))) := augAt_at rfl (get_bI (by omega))
      have nx : ((dealt ls i).map D.int).set (foremost ls (dealt ls i)) (.int (bI (dealt ls i) (foremost ls (dealt ls i)) + 1)) = (dealt ls (i + 1)).map D.int := by
        show _ = ((dealt ls i).set (foremost ls (dealt ls i)) (bI (dealt ls i) (foremost ls (dealt ls i)) + 1)).map D.int
        rw [List.map_set]
      have rl : (rowsOf ls i).length < 16777216 := by rw [rowsOf_len]; omega
      refine ⟨[.fz (linesD ls), .fz (.int (n : Int)), .ow (.lst ((dealt ls i).map D.int)), .ow (.lst ((rowsOf ls i).map intsD)), .fz (.int (0 + (i : Int)))], [.fz (linesD ls), .fz (.int (n : Int)), .ow (.lst ((dealt ls (i + 1)).map D.int)), .ow (.lst ((rowsOf ls (i + 1)).map intsD)), .fz (.int (0 + (i : Int)))], by simp [h4], .inl ?_, _, rfl, rfl⟩
      simp [m_grown_parts_l1, fe, au, nx, rl, rowsOf_succ, intsD])
  rw [rngD_len] at h2
  subst h2
  refine runF_rt rfl (by decide) (e := [.fz (linesD ls), .fz (.int (n : Int)), .ow (.lst ((dealt ls n).map D.int)), .ow (.lst ((rowsOf ls n).map intsD)), s4]) ?_ (fun l o z => by cases z)
  have k1 : ls.length ≤ 16777216 := by omega
  have e0 : (dealt ls 0).map D.int = List.replicate ls.length (.int 0) := by simp [dealt]
  have e1 : (rowsOf ls 0).map intsD = [.lst (List.replicate ls.length (.int 0))] := by simp [rowsOf, intsD, dealt]
  rw [e0, e1] at h1
  have k2 : n ≤ 1000000 := by omega
  show m_grown_parts [.fz (linesD ls), .fz (.int (n : Int)), .un, .un, .un] = _
  simp [m_grown_parts, kLen_lines, k1, k2, h1]
theorem flat_pairs : ∀ ls : Ln, dsFlat (ls.map pairD) = true
  | [] => rfl
  | p :: ls => by simp [dsFlat, flat_pairs ls, pairD, D.flat]
theorem are_lines_eq {ls : Ln} (L : Lines ls) : f_are_lines [.fz (linesD ls)] = .ok (.fz (.bl true)) none := by
  have hp : 0 < ls.length := List.length_pos_iff.mpr L.good.pos
  have hf := L.good.few
  obtain ⟨e', h1, s2, s3, f2, f3, h2⟩ := forD_inv (g := (gT (gsCons (gN 2) (gsCons (gN 3) gsNil)) 2)) (b := m_are_lines_l1) (ds := ls.map pairD) (env := [.fz (linesD ls), .ow (.lst []), .un, .un])
    (fun i e => ∃ s2 s3, S.free s2 = true ∧ S.free s3 = true ∧ e = [.fz (linesD ls), .ow (.lst (((ls.take i).map Prod.fst).map D.int)), s2, s3])
    ⟨.un, .un, rfl, rfl, rfl⟩ (fun i d e hd ⟨s2, s3, f2, f3, h2⟩ => by
      subst h2
      have hi : i < ls.length := by have := (List.getElem?_eq_some_iff.mp hd).1; simpa using this
      rw [List.getElem?_map, List.getElem?_eq_getElem hi] at hd
      obtain rfl := Option.some.inj hd
      have hm : ls[i] ∈ ls := List.getElem_mem hi
      have w := L.good.w _ hm
      have w2 := L.house _ hm
      have nd := L.nodup
      have w3 : ls[i].1 ∉ (ls.take i).map Prod.fst := by
        intro hx
        have e1 : ls.map Prod.fst = (ls.take i).map Prod.fst ++ ((ls.drop i).map Prod.fst) := by rw [← List.map_append, List.take_append_drop]
        rw [e1, List.nodup_append] at nd
        have : ls[i].1 ∈ (ls.drop i).map Prod.fst := List.mem_map.mpr ⟨ls[i], by rw [List.drop_eq_getElem_cons hi]; exact List.mem_cons_self, rfl⟩
        exact nd.2.2 _ hx _ this rfl
      have e2 : (ls.take (i + 1)).map Prod.fst = (ls.take i).map Prod.fst ++ [ls[i].1] := by
        rw [List.take_succ_eq_append_getElem hi, List.map_append]; rfl
      have k1 : kIn (.fz (.int ls[i].1)) (.bor (.slot 1) (.lst (((ls.take i).map Prod.fst).map D.int))) = some false := by
        rw [kIn_ints (ns := (ls.take i).map Prod.fst) rfl]; simp only [w3, decide_false]
      have k2 : (((ls.take i).map Prod.fst).map D.int).length < 16777216 := by simp; omega
      refine ⟨[.fz (linesD ls), .ow (.lst (((ls.take i).map Prod.fst).map D.int)), .fz (.int ls[i].1), .fz (.int ls[i].2)], [.fz (linesD ls), .ow (.lst (((ls.take (i + 1)).map Prod.fst).map D.int)), .fz (.int ls[i].1), .fz (.int ls[i].2)], ?_, .inl ?_, _, _, rfl, rfl, rfl⟩
      · simp [pairD, f2, f3]
      · have c1 : ¬ ls[i].1 < 0 := by omega
        have c2 : ¬ 6 ≤ ls[i].1 := by omega
        have c3 : ¬ ls[i].2 < 1 := by omega
        have c4 : ¬ 20 < ls[i].2 := by omega
        rw [e2, List.map_append, List.map_cons, List.map_nil]
        generalize ((ls.take i).map Prod.fst).map D.int = zs at k1 k2
        simp [m_are_lines_l1, k1, k2, c1, c2, c3, c4])
  subst h2
  refine runF_rt rfl (by decide) (e := [.fz (linesD ls), .ow (.lst (((ls.take (ls.map pairD).length).map Prod.fst).map D.int)), s2, s3]) ?_ (fun l o z => by cases z)
  have c1 : ¬ ((ls.length : Int) < 1) := by omega
  have c2 : ¬ (4 < (ls.length : Int)) := by omega
  have k : forK P.tup? (.ok (.fz (linesD ls))) (gT (gsCons (gN 2) (gsCons (gN 3) gsNil)) 2) m_are_lines_l1 [.fz (linesD ls), .ow (.lst []), .un, .un] = .nx [.fz (linesD ls), .ow (.lst (((ls.take (ls.map pairD).length).map Prod.fst).map D.int)), s2, s3] := h1
  show m_are_lines [.fz (linesD ls), .un, .un, .un] = _
  simp [m_are_lines, kLen_lines, c1, c2, k]
/-- while the lines are drawn -/
structure Drawn (Q : Int → Prop) (os : List Int) (ls : Ln) (L k : Nat) : Prop where
  nodup : (os ++ ls.map Prod.fst).Nodup
  os_in : ∀ o ∈ os, Q o
  ls_in : ∀ p ∈ ls, Q p.1
  w : ∀ p ∈ ls, 1 ≤ p.2 ∧ p.2 ≤ 20
  left : os.length + ls.length = L
  len : ls.length = k
theorem Drawn.step {Q : Int → Prop} {os : List Int} {ls : Ln} {L k : Nat} (h : Drawn Q os ls L k) {n : Nat} (hn : n < os.length) {w : Int} (hw : 1 ≤ w ∧ w ≤ 20) : Drawn Q (os.eraseIdx n) (ls ++ [(os[n], w)]) L (k + 1) where
  nodup := by
    have p : (os.eraseIdx n ++ (ls ++ [(os[n], w)]).map Prod.fst).Perm (os ++ ls.map Prod.fst) := by
      rw [List.map_append, List.map_cons, List.map_nil]
      refine (List.Perm.append_left _ (List.perm_append_singleton _ _)).trans ?_
      refine List.perm_middle.trans ?_
      exact List.Perm.append_right _ (erase_perm os n hn)
    exact p.nodup_iff.mpr h.nodup
  os_in := fun o ho => h.os_in o (erase_mem ho)
  ls_in := fun p hp => by
    rcases List.mem_append.mp hp with hp | hp
    · exact h.ls_in p hp
    · rw [List.mem_singleton.mp hp]; exact h.os_in _ (List.getElem_mem hn)
  w := fun p hp => by
    rcases List.mem_append.mp hp with hp | hp
    · exact h.w p hp
    · rw [List.mem_singleton.mp hp]; exact hw
  left := by have := h.left; rw [List.length_eraseIdx, if_pos hn]; simp; omega
  len := by have := h.len; simp; omega
theorem lines_l1 {Q : Int → Prop} {os : List Int} {ls : Ln} {L k : Nat} {s0 s1 s5 s7 s8 : S} {ds : List Int} (h : Drawn Q os ls L k) (hL : L ≤ 6) (hk : k < 4) (hkL : k < L) (hd : Row ds) (hl : ds.length = 5) (f7 : s7.free = true) (f8 : s8.free = true) :
    ∃ os' ls' s7' s8', Drawn Q os' ls' L (k + 1) ∧ S.free s7' = true ∧ S.free s8' = true ∧
      m_law_lines_l1 [s0, s1, .fz (.lst (ds.map D.int)), .ow (.lst (os.map D.int)), .fz (.int (k : Int)), s5, .ow (.lst (ls.map pairD)), s7, s8] =
        .nx [s0, s1, .fz (.lst (ds.map D.int)), .ow (.lst (os'.map D.int)), .fz (.int (k : Int)), s5, .ow (.lst (ls'.map pairD)), s7', s8'] := by
  have hleft := h.left
  have hlen := h.len
  have i0 : kIx (.fz (.lst (ds.map D.int))) (.fz (.int 0)) = some (.int (bI ds 0)) := kIx_ints rfl (by omega)
  have i1 : kIx (.fz (.lst (ds.map D.int))) (.fz (.int (1 + (k : Int)))) = some (.int (bI ds (1 + k))) := kIx_ints (by omega) (by omega)
  have b0 := hd.at 0
  have b1 := hd.at (1 + k)
  have hos : 0 < os.length := by omega
  obtain ⟨n, hn⟩ : ∃ n : Nat, bI ds (1 + k) % (os.length : Int) = (n : Int) := ⟨(bI ds (1 + k) % (os.length : Int)).toNat, by rw [Int.toNat_of_nonneg (Int.emod_nonneg _ (by omega))]⟩
  have hnl : n < os.length := by have := Int.emod_lt_of_pos (bI ds (1 + k)) (show 0 < (os.length : Int) by omega); omega
  have k1 : iMod (bI ds (1 + k)) (os.length : Int) = some (n : Int) := by rw [iMod_pos (by omega), hn]
  have k2 : iDiv (bI ds (1 + k)) 7 = some (bI ds (1 + k) / 7) := iDiv_pos (by omega) (by omega)
  have k3 : ∀ x, iMod x 20 = some (x % 20) := fun x => iMod_pos (by omega)
  have k4 : ∀ x, iMod x 3 = some (x % 3) := fun x => iMod_pos (by omega)
  have k5 : iDiv (bI ds 0) 4 = some (bI ds 0 / 4) := iDiv_pos (by omega) (by omega)
  have k6 : ls.length < 16777216 := by omega
  have k7 : popAtK (some (.ow (.lst (os.map D.int)))) (.ok (.fz (.int (n : Int)))) 7 3 [s0, s1, .fz (.lst (ds.map D.int)), .ow (.lst (os.map D.int)), .fz (.int (k : Int)), s5, .ow (.lst (ls.map pairD)), s7, s8] = .nx [s0, s1, .fz (.lst (ds.map D.int)), .ow (.lst ((os.eraseIdx n).map D.int)), .fz (.int (k : Int)), s5, .ow (.lst (ls.map pairD)), .fz (.int os[n]), s8] := by
    rw [popAtK_ow rfl (by omega) (d := .int os[n]) (by rw [List.getElem?_map, List.getElem?_eq_getElem hnl]; rfl) (by simp [f7]), erase_map]
    rfl
  have w1 : 1 ≤ 1 + bI ds (1 + k) / 7 % 20 ∧ 1 + bI ds (1 + k) / 7 % 20 ≤ 20 := by omega
  have w2 : 1 ≤ 1 + bI ds (1 + k) / 7 % 3 ∧ 1 + bI ds (1 + k) / 7 % 3 ≤ 20 := by omega
  by_cases c : bI ds 0 / 4 % 3 = 1
  · refine ⟨os.eraseIdx n, ls ++ [(os[n], 1 + bI ds (1 + k) / 7 % 3)], .fz (.int os[n]), .fz (.int (1 + bI ds (1 + k) / 7 % 3)), h.step hnl w2, rfl, rfl, ?_⟩
    simp [m_law_lines_l1, i0, i1, k1, k2, k3, k4, k5, k6, k7, f8, c, pairD]
  · refine ⟨os.eraseIdx n, ls ++ [(os[n], 1 + bI ds (1 + k) / 7 % 20)], .fz (.int os[n]), .fz (.int (1 + bI ds (1 + k) / 7 % 20)), h.step hnl w1, rfl, rfl, ?_⟩
    simp [m_law_lines_l1, i0, i1, k1, k2, k3, k4, k5, k6, k7, f8, c, pairD]
/-- the houses but one -/
def others (n : Nat) (house : Int) : List Int := ((List.range n).map Int.ofNat).filter fun k => !(k == house)
theorem others_nodup (n : Nat) (house : Int) : (others n house).Nodup := by
  refine List.Nodup.sublist List.filter_sublist ?_
  refine List.Pairwise.map _ ?_ List.nodup_range
  intro a b h c
  exact h (Int.ofNat.inj c)
theorem others_in {n : Nat} {house o : Int} (h : o ∈ others n house) : 0 ≤ o ∧ o < n ∧ o ≠ house := by
  obtain ⟨h1, h2⟩ := List.mem_filter.mp h
  obtain ⟨k, hk, rfl⟩ := List.mem_map.mp h1
  have := List.mem_range.mp hk
  have h3 : ¬ (Int.ofNat k = house) := by simpa using h2
  refine ⟨?_, ?_, h3⟩ <;> simp only [Int.ofNat_eq_natCast] <;> omega
theorem others_pos {n : Nat} {house : Int} (h : 2 ≤ n) : 0 < (others n house).length := by
  rw [List.length_pos_iff]
  intro hc
  by_cases e : house = 0
  · have : (1 : Int) ∈ others n house := List.mem_filter.mpr ⟨List.mem_map.mpr ⟨1, List.mem_range.mpr (by omega), rfl⟩, by simp [e]⟩
    rw [hc] at this; cases this
  · have : (0 : Int) ∈ others n house := List.mem_filter.mpr ⟨List.mem_map.mpr ⟨0, List.mem_range.mpr (by omega), rfl⟩, by simp; exact fun z => e z.symm⟩
    rw [hc] at this; cases this
theorem others_le (n : Nat) (house : Int) : (others n house).length ≤ n := by
  exact Nat.le_trans (List.length_filter_le (fun k => !(k == house)) ((List.range n).map Int.ofNat)) (by simp)
def isNot (house : Int) (d : D) : Bool := match d with
  | .int k => !(k == house)
  | _ => false
theorem rng_others (n : Nat) (house : Int) : ((rngD 0 n).filter (isNot house)).map id = (others n house).map D.int := by
  have e : rngD 0 n = ((List.range n).map Int.ofNat).map D.int := by unfold rngD; simp
  rw [e, List.map_id, List.filter_map]
  rfl
theorem lines_eq2 {houses : Nat} {house : Int} {ds : List Int} (h2 : 2 ≤ houses) (h6 : houses ≤ 6) (hd : Row ds) (hl : ds.length = 5) :
    ∃ ls, Lines ls ∧ (∀ p ∈ ls, 0 ≤ p.1 ∧ p.1 < houses ∧ p.1 ≠ house) ∧ f_law_lines [.fz (.int (houses : Int)), .fz (.int house), .fz (.lst (ds.map D.int))] = .ok (.fz (linesD ls)) none := by
  have k0 : kRng1 [.fz (.int (houses : Int))] = some (0, houses) := kRng1_nat (by omega)
  have c1 : mComp 4 (m2 kNe (mVar 4) (mVar 1)) (mVar 4) (rngD 0 houses) [.fz (.int (houses : Int)), .fz (.int house), .fz (.lst (ds.map D.int)), .un, .un, .un, .un, .un, .un] = .ok (.tmp (.lst ((others houses house).map D.int))) := by
    rw [mComp_fm (isNot house) id rfl (by rw [rngD_len]; omega) (fun d hd => by
      obtain ⟨i, hi, rfl⟩ := List.mem_map.mp hd
      exact ⟨[.fz (.int (houses : Int)), .fz (.int house), .fz (.lst (ds.map D.int)), .un, .fz (.int (0 + (i : Int))), .un, .un, .un, .un], by simp [wipeE], by simp [isNot], by simp⟩), rng_others]
  have o1 := others_pos (house := house) h2
  have o2 := others_le houses house
  obtain ⟨L, hL⟩ : ∃ L, (others houses house).length = L := ⟨_, rfl⟩
  have i0 : kIx (.fz (.lst (ds.map D.int))) (.fz (.int 0)) = some (.int (bI ds 0)) := kIx_ints rfl (by omega)
  have b0 := hd.at 0
  obtain ⟨m, hm⟩ : ∃ m : Nat, (if (L : Int) < 4 then (L : Int) else 4) = (m : Int) := by
    by_cases c : (L : Int) < 4
    · exact ⟨L, by rw [if_pos c]⟩
    · exact ⟨4, by rw [if_neg c]; rfl⟩
  have m0 : 0 < m ∧ m ≤ 4 ∧ m ≤ L := by split at hm <;> omega
  obtain ⟨q, hq⟩ : ∃ q : Nat, 1 + bI ds 0 % (m : Int) = (q : Int) := ⟨(1 + bI ds 0 % (m : Int)).toNat, by have := Int.emod_nonneg (bI ds 0) (show (m : Int) ≠ 0 by omega); omega⟩
  have q0 : 1 ≤ q ∧ q ≤ m := by
    have h3 := Int.emod_nonneg (bI ds 0) (show (m : Int) ≠ 0 by omega)
    have h4 := Int.emod_lt_of_pos (bI ds 0) (show 0 < (m : Int) by omega)
    omega
  have k1 : iMod (bI ds 0) (m : Int) = some (bI ds 0 % (m : Int)) := iMod_pos (by omega)
  have k2 : kRng1 [.fz (.int (q : Int))] = some (0, q) := kRng1_nat (by omega)
  have k3 : kMin2 [.fz (.int 4), .fz (.int (L : Int))] = some (m : Int) := by rw [← hm]; rfl
  have D0 : Drawn (fun o => 0 ≤ o ∧ o < houses ∧ o ≠ house) (others houses house) [] L 0 := ⟨by simp [others_nodup], fun o ho => others_in ho, fun _ h => absurd h List.not_mem_nil, fun _ h => absurd h List.not_mem_nil, by simp [hL], rfl⟩
  obtain ⟨e', h1, os, ls, s4, s7, s8, d1, f4, f7, f8, he⟩ := forD_inv (g := gN 4) (b := m_law_lines_l1) (ds := rngD 0 q) (env := [.fz (.int (houses : Int)), .fz (.int house), .fz (.lst (ds.map D.int)), .ow (.lst ((others houses house).map D.int)), .un, .fz (.int (q : Int)), .ow (.lst []), .un, .un])
    (fun i e => ∃ os ls s4 s7 s8, Drawn (fun o => 0 ≤ o ∧ o < houses ∧ o ≠ house) os ls L i ∧ S.free s4 = true ∧ S.free s7 = true ∧ S.free s8 = true ∧ e = [.fz (.int (houses : Int)), .fz (.int house), .fz (.lst (ds.map D.int)), .ow (.lst (os.map D.int)), s4, .fz (.int (q : Int)), .ow (.lst (ls.map pairD)), s7, s8])
    ⟨others houses house, [], .un, .un, .un, D0, rfl, rfl, rfl, rfl⟩ (fun i d e hdd ⟨os, ls, s4, s7, s8, d1, f4, f7, f8, he⟩ => by
      obtain ⟨hi, rfl⟩ := rngD_at hdd
      subst he
      rw [Int.zero_add]
      obtain ⟨os', ls', s7', s8', b1, b2, b3, b4⟩ := lines_l1 (s0 := .fz (.int (houses : Int))) (s1 := .fz (.int house)) (s5 := .fz (.int (q : Int))) d1 (by omega) (by omega) (by omega) hd hl f7 f8
      exact ⟨[.fz (.int (houses : Int)), .fz (.int house), .fz (.lst (ds.map D.int)), .ow (.lst (os.map D.int)), .fz (.int (i : Int)), .fz (.int (q : Int)), .ow (.lst (ls.map pairD)), s7, s8], _, by simp [f4], .inl b4, os', ls', .fz (.int (i : Int)), s7', s8', b1, rfl, b2, b3, rfl⟩)
  rw [rngD_len] at d1
  subst he
  have nd := d1.nodup
  rw [List.nodup_append] at nd
  refine ⟨ls, ⟨⟨?_, ?_, d1.w⟩, fun p hp => by have := d1.ls_in p hp; omega, nd.2.1⟩, d1.ls_in, ?_⟩
  · intro hc; have := d1.len; rw [hc] at this; simp at this; omega
  · have := d1.len; omega
  refine runF_rt rfl (by decide) (e := [.fz (.int (houses : Int)), .fz (.int house), .fz (.lst (ds.map D.int)), .ow (.lst (os.map D.int)), s4, .fz (.int (q : Int)), .ow (.lst (ls.map pairD)), s7, s8]) ?_ (fun l o z => by cases z)
  show m_law_lines [.fz (.int (houses : Int)), .fz (.int house), .fz (.lst (ds.map D.int)), .un, .un, .un, .un, .un, .un] = _
  simp [m_law_lines, k0, c1, hL, i0, k3, k1, hq, k2, h1, linesD]
theorem lines_eq {houses : Nat} {house : Int} {ds : List Int} (h2 : 2 ≤ houses) (h6 : houses ≤ 6) (hd : Row ds) (hl : ds.length = 5) :
    ∃ ls, Lines ls ∧ f_law_lines [.fz (.int (houses : Int)), .fz (.int house), .fz (.lst (ds.map D.int))] = .ok (.fz (linesD ls)) none := by
  obtain ⟨ls, h, _, e⟩ := lines_eq2 (house := house) h2 h6 hd hl
  exact ⟨ls, h, e⟩
/-- the law's own reckoning of the bill -/
theorem split_body {ls : Ln} {bs : List Int} {best at_ : Nat} {s1 s3 s4 s7 : S} (hb : best < ls.length) (ha : at_ < ls.length) (hl : bs.length = ls.length) (sm : Small bs) (f7 : s7.free = true) :
    ∃ s7', S.free s7' = true ∧ m_law_split_l1 [.fz (linesD ls), s1, .ow (.lst (bs.map D.int)), s3, s4, .fz (.int best), .fz (.int at_), s7] = .nx [.fz (linesD ls), s1, .ow (.lst (bs.map D.int)), s3, s4, .fz (.int (pick ls bs best at_ : Nat)), .fz (.int at_), s7'] := by
  have i1 : kIx (.bor (.slot 2) (.lst (bs.map D.int))) (.fz (.int at_)) = some (.int (bI bs at_)) := kIx_ok rfl rfl (get_bI (by omega))
  have i2 : kIx (.bor (.slot 2) (.lst (bs.map D.int))) (.fz (.int best)) = some (.int (bI bs best)) := kIx_ok rfl rfl (get_bI (by omega))
  have i3 : kIx (.fz (linesD ls)) (.fz (.int at_)) = some (.tup [.int (ls.getD at_ (0, 0)).1, .int (lW ls at_)]) := kIx_ok rfl rfl (get_pair ha)
  have i4 : kIx (.fz (linesD ls)) (.fz (.int best)) = some (.tup [.int (ls.getD best (0, 0)).1, .int (lW ls best)]) := kIx_ok rfl rfl (get_pair hb)
  have b1 := sm.at at_
  have b2 := sm.at best
  have m1 : ∀ x, iMul (bI bs at_ + 1) x = some ((bI bs at_ + 1) * x) := fun x => iMul_l (by omega) (by omega)
  have m2' : ∀ x, iMul (bI bs best + 1) x = some ((bI bs best + 1) * x) := fun x => iMul_l (by omega) (by omega)
  refine ⟨.fz (.int ((bI bs at_ + 1) * lW ls best)), rfl, ?_⟩
  simp [m_law_split_l1, i1, i2, i3, i4, m1, m2', pick, f7]
  split <;> rfl
theorem split_turn {ls : Ln} {bs : List Int} {rows : List (List Int)} {s1 s4 s5 s6 s7 : S} (g : GoodL ls) (hl : bs.length = ls.length) (hr : rows.length < 16777216) (sm : Small bs) (f5 : s5.free = true) (f6 : s6.free = true) (f7 : s7.free = true) :
    ∃ s5' s6' s7', S.free s5' = true ∧ S.free s6' = true ∧ S.free s7' = true ∧ m_law_split_l2 [.fz (linesD ls), s1, .ow (.lst (bs.map D.int)), .ow (.lst (rows.map intsD)), s4, s5, s6, s7] = .nx [.fz (linesD ls), s1, .ow (.lst ((deal ls bs).map D.int)), .ow (.lst ((rows ++ [deal ls bs]).map intsD)), s4, s5', s6', s7'] := by
  have hp : 0 < ls.length := List.length_pos_iff.mpr g.pos
  have hf := g.few
  obtain ⟨e', h1, s6', s7', a1, a2, a3, a4⟩ := forD_inv (g := gN 6) (b := m_law_split_l1) (ds := rngD 0 ls.length) (env := [.fz (linesD ls), s1, .ow (.lst (bs.map D.int)), .ow (.lst (rows.map intsD)), s4, .fz (.int 0), s6, s7])
    (fun i e => ∃ s6 s7, S.free s6 = true ∧ S.free s7 = true ∧ foldp ls bs 0 i 0 < ls.length ∧ e = [.fz (linesD ls), s1, .ow (.lst (bs.map D.int)), .ow (.lst (rows.map intsD)), s4, .fz (.int (foldp ls bs 0 i 0 : Nat)), s6, s7])
    ⟨s6, s7, f6, f7, by simp [foldp]; exact hp, by simp [foldp]⟩ (fun i d e hd ⟨s6, s7, a1, a2, a3, a4⟩ => by
      obtain ⟨hi, rfl⟩ := rngD_at hd
      subst a4
      rw [Int.zero_add]
      obtain ⟨s7', b1, b2⟩ := split_body (s1 := s1) (s3 := .ow (.lst (rows.map intsD))) (s4 := s4) a3 hi hl sm a2
      have e3 : foldp ls bs 0 (i + 1) 0 = pick ls bs (foldp ls bs 0 i 0) i := by unfold foldp; rw [List.range'_concat]; simp
      refine ⟨[.fz (linesD ls), s1, .ow (.lst (bs.map D.int)), .ow (.lst (rows.map intsD)), s4, .fz (.int (foldp ls bs 0 i 0 : Nat)), .fz (.int (i : Int)), s7], _, by simp [a1], .inl b2, .fz (.int (i : Int)), s7', rfl, b1, ?_, ?_⟩
      · rw [e3]; exact pick_lt a3 hi
      · rw [e3])
  rw [rngD_len] at a3 a4
  have e4 : foldp ls bs 0 ls.length 0 = foremost ls bs := by unfold foldp foremost; rw [List.range_eq_range']
  rw [e4] at a3 a4
  subst a4
  have k1 : kRng1 [.fz (.int (ls.length : Int))] = some (0, ls.length) := kRng1_nat (by omega)
  have k2 : kIx (.bor (.slot 2) (.lst (bs.map D.int))) (.fz (.int (foremost ls bs : Nat))) = some (.int (bI bs (foremost ls bs))) := kIx_ok rfl rfl (get_bI (by omega))
  have k3 : setD (bs.map D.int) (foremost ls bs : Nat) (.int (bI bs (foremost ls bs) + 1)) = some ((deal ls bs).map D.int) := by
    rw [setD_ok rfl (by simp; omega)]
    unfold deal
    rw [List.map_set]
  refine ⟨.fz (.int (foremost ls bs : Nat)), s6', s7', rfl, a1, a2, ?_⟩
  · simp [m_law_split_l2, f5, k1, kLen_lines, h1, k2, k3, hr, intsD]
theorem split_eq {ls : Ln} (g : GoodL ls) {n : Nat} (hn : n ≤ 1000) : f_law_split [.fz (linesD ls), .fz (.int (n : Int))] = .ok (.tmp (.lst ((rowsOf ls n).map intsD))) none := by
  have hf := g.few
  obtain ⟨e', h1, s4, s5, s6, s7, f4, f5, f6, f7, h2⟩ := forD_inv (g := gN 4) (b := m_law_split_l2) (ds := rngD 0 n) (env := [.fz (linesD ls), .fz (.int (n : Int)), .ow (.lst ((dealt ls 0).map D.int)), .ow (.lst ((rowsOf ls 0).map intsD)), .un, .un, .un, .un])
    (fun i e => ∃ s4 s5 s6 s7, S.free s4 = true ∧ S.free s5 = true ∧ S.free s6 = true ∧ S.free s7 = true ∧ e = [.fz (linesD ls), .fz (.int (n : Int)), .ow (.lst ((dealt ls i).map D.int)), .ow (.lst ((rowsOf ls i).map intsD)), s4, s5, s6, s7])
    ⟨.un, .un, .un, .un, rfl, rfl, rfl, rfl, rfl⟩ (fun i d e hd ⟨s4, s5, s6, s7, f4, f5, f6, f7, h5⟩ => by
      obtain ⟨hi, rfl⟩ := rngD_at hd
      subst h5
      obtain ⟨s5', s6', s7', b1, b2, b3, b4⟩ := split_turn (s1 := .fz (.int (n : Int))) (s4 := .fz (.int (0 + (i : Int)))) g (dealt_len ls i) (show (rowsOf ls i).length < 16777216 by rw [rowsOf_len]; omega) (dealt_small ls (by omega)) f5 f6 f7
      refine ⟨[.fz (linesD ls), .fz (.int (n : Int)), .ow (.lst ((dealt ls i).map D.int)), .ow (.lst ((rowsOf ls i).map intsD)), .fz (.int (0 + (i : Int))), s5, s6, s7], _, by simp [f4], .inl b4, .fz (.int (0 + (i : Int))), s5', s6', s7', rfl, b1, b2, b3, ?_⟩
      rw [rowsOf_succ]; rfl)
  rw [rngD_len] at h2
  subst h2
  refine runF_rt rfl (by decide) (e := [.fz (linesD ls), .fz (.int (n : Int)), .ow (.lst ((dealt ls n).map D.int)), .ow (.lst ((rowsOf ls n).map intsD)), s4, s5, s6, s7]) ?_ (fun l o z => by cases z)
  have k1 : ls.length ≤ 16777216 := by omega
  have e0 : (dealt ls 0).map D.int = List.replicate ls.length (.int 0) := by simp [dealt]
  have e1 : (rowsOf ls 0).map intsD = [.lst (List.replicate ls.length (.int 0))] := by simp [rowsOf, intsD, dealt]
  rw [e0, e1] at h1
  have k2 : n ≤ 1000000 := by omega
  show m_law_split [.fz (linesD ls), .fz (.int (n : Int)), .un, .un, .un, .un, .un, .un] = _
  simp [m_law_split, kLen_lines, k1, k2, h1]
/-! judging -/
theorem whole_eq (i : Int) : f_law_whole [.fz (.int i)] = .ok (.fz (.bl true)) none := by
  refine runF_rt rfl (by decide) (e := [.fz (.int i)]) ?_ (fun l o z => by cases z)
  show m_law_whole [.fz (.int i)] = _
  simp [m_law_whole, isi_int, isi_bool]
theorem wholes_eq {s : S} {xs : List Int} (hs : s = .rd (.lst (xs.map D.int)) ∨ s = .fz (.lst (xs.map D.int))) : f_law_wholes [s, .fz (.int (xs.length : Int))] = .ok (.fz (.bl true)) none := by
  obtain ⟨e', h1, s2, f2, he⟩ := forD_inv (g := gN 2) (b := m_law_wholes_l1) (ds := xs.map D.int) (env := [s, .fz (.int (xs.length : Int)), .un])
    (fun i e => ∃ s2, S.free s2 = true ∧ e = [s, .fz (.int (xs.length : Int)), s2]) ⟨.un, rfl, rfl⟩ (fun i d e hd ⟨s2, f2, he⟩ => by
      subst he
      obtain ⟨x, _, rfl⟩ := List.mem_map.mp (List.mem_of_getElem? hd)
      exact ⟨[s, .fz (.int (xs.length : Int)), .fz (.int x)], [s, .fz (.int (xs.length : Int)), .fz (.int x)], by simp [f2], .inl (by simp [m_law_wholes_l1, whole_eq]), _, rfl, rfl⟩)
  subst he
  have hm : m_law_wholes [s, .fz (.int (xs.length : Int)), .un] = .rt (.fz (.bl true)) [s, .fz (.int (xs.length : Int)), s2] := by
    rcases hs with rfl | rfl <;> simp [m_law_wholes, isi_list_fz, isi_list_bor, h1]
  rcases hs with rfl | rfl
  · exact runF_rt (e := [.rd (.lst (xs.map D.int)), .fz (.int (xs.length : Int)), s2]) rfl (by decide) hm (fun l o z => by cases z)
  · exact runF_rt (e := [.fz (.lst (xs.map D.int)), .fz (.int (xs.length : Int)), s2]) rfl (by decide) hm (fun l o z => by cases z)
theorem list_eq {s : S} {xs : List Int} (hs : s = .rd (.lst (xs.map D.int)) ∨ s = .fz (.lst (xs.map D.int))) : f_law_list [s, .fz (.lst (xs.map D.int))] = .ok (.fz (.bl true)) none := by
  have hm : m_law_list [s, .fz (.lst (xs.map D.int))] = .rt (.fz (.bl true)) [s, .fz (.lst (xs.map D.int))] := by
    have w := wholes_eq hs
    have e1 : kEq (.bor .amb (.lst (xs.map D.int))) (.fz (.lst (xs.map D.int))) = some true := by rw [kEq_ints (P.ints_bor _ _) (P.ints_fz _)]; simp
    have e2 : kEq (.fz (.lst (xs.map D.int))) (.fz (.lst (xs.map D.int))) = some true := by rw [kEq_ints (P.ints_fz _) (P.ints_fz _)]; simp
    rcases hs with rfl | rfl <;> simp [m_law_list, w, e1, e2]
  rcases hs with rfl | rfl
  · exact runF_rt (e := [.rd (.lst (xs.map D.int)), .fz (.lst (xs.map D.int))]) rfl (by decide) hm (fun l o z => by cases z)
  · exact runF_rt (e := [.fz (.lst (xs.map D.int)), .fz (.lst (xs.map D.int))]) rfl (by decide) hm (fun l o z => by cases z)
theorem sum_inc : ∀ (bs : List Int) (i : Nat), i < bs.length → (bs.set i (bI bs i + 1)).sum = bs.sum + 1
  | b :: bs, 0, _ => by simp [bI]; omega
  | b :: bs, i + 1, h => by
    have := sum_inc bs i (by simpa using h)
    have e : bI (b :: bs) (i + 1) = bI bs i := rfl
    rw [List.set_cons_succ, List.sum_cons, List.sum_cons, e, this]
    omega
theorem dealt_sum {ls : Ln} (g : GoodL ls) : ∀ n : Nat, (dealt ls n).sum = (n : Int)
  | 0 => by
    unfold dealt
    induction ls.length with
    | zero => rfl
    | succ n ih => rw [List.replicate_succ, List.sum_cons, ih]; rfl
  | n + 1 => by
    have h : foremost ls (dealt ls n) < (dealt ls n).length := by rw [dealt_len]; exact foremost_lt g
    show (deal ls (dealt ls n)).sum = _
    unfold deal
    rw [sum_inc _ _ h, dealt_sum g n]
    omega
/-- a cover, as the law draws it -/
structure Cov where
  house : Int
  share : Bool
  by_ : Int
  most : Int
  lines : Ln
def kindD (share : Bool) : D := .str (if share = true then "share" else "layer")
def Cov.d (c : Cov) : D := .tup [.int c.house, kindD c.share, .int c.by_, .int c.most, linesD c.lines]
structure ByOk (share : Bool) (b : Int) : Prop where
  sh : share = true → 1 ≤ b ∧ b ≤ 100
  la : share = false → 0 ≤ b ∧ b ≤ 200
structure Cov.Ok (c : Cov) (houses : Nat) : Prop where
  house : 0 ≤ c.house ∧ c.house < houses
  by_ : ByOk c.share c.by_
  most : 0 ≤ c.most ∧ c.most ≤ 24
  lines : Lines c.lines
  others : ∀ p ∈ c.lines, 0 ≤ p.1 ∧ p.1 < houses ∧ p.1 ≠ c.house
@[simp] theorem kind_share : kindD true = .str "share" := id rfl
@[simp] theorem kind_layer : kindD false = .str "layer" := id rfl
theorem kEq_ss : kEq (.fz (.str "share")) (.fz (.str "share")) = some true := by decide +kernel
theorem kEq_ls : kEq (.fz (.str "layer")) (.fz (.str "share")) = some false := by decide +kernel
theorem kEq_ll : kEq (.fz (.str "layer")) (.fz (.str "layer")) = some true := by decide +kernel
theorem kEq_ks (b : Bool) : kEq (.fz (kindD b)) (.fz (.str "share")) = some b := by cases b <;> decide +kernel
theorem kEq_kl (b : Bool) : kEq (.fz (kindD b)) (.fz (.str "layer")) = some (!b) := by cases b <;> decide +kernel
theorem kinds_at (k : Int) (b : Bool) (h : k = if b = true then 0 else 1) : kIx (.fz (.lst [.str "share", .str "layer"])) (.fz (.int k)) = some (kindD b) := by
  subst h; cases b
  · exact kIx_ok (j := 1) rfl rfl rfl
  · exact kIx_ok (j := 0) rfl rfl rfl
theorem cover_eq {houses : Nat} {ds : List Int} (h2 : 2 ≤ houses) (h6 : houses ≤ 6) (hd : Row ds) (hl : ds.length = 9) :
    ∃ c : Cov, c.Ok houses ∧ f_law_cover [.fz (.int (houses : Int)), .fz (.lst (ds.map D.int))] = .ok (.fz c.d) none := by
  have i0 : kIx (.fz (.lst (ds.map D.int))) (.fz (.int 0)) = some (.int (bI ds 0)) := kIx_ints rfl (by omega)
  have i1 : kIx (.fz (.lst (ds.map D.int))) (.fz (.int 1)) = some (.int (bI ds 1)) := kIx_ints rfl (by omega)
  have i2 : kIx (.fz (.lst (ds.map D.int))) (.fz (.int 2)) = some (.int (bI ds 2)) := kIx_ints rfl (by omega)
  have i3 : kIx (.fz (.lst (ds.map D.int))) (.fz (.int 3)) = some (.int (bI ds 3)) := kIx_ints rfl (by omega)
  have c1 : kSlL (.fz (.lst (ds.map D.int))) (some 4) (some 9) = some (((ds.drop 4).take 5).map D.int) := by
    have e1 : (4 : Int) = ((4 : Nat) : Int) := rfl
    have e6 : (9 : Int) = ((9 : Nat) : Int) := rfl
    rw [kSlL_lst, e1, e6, cut_from_to (by simp; omega) (by omega), List.map_take, List.map_drop]
  have hr5 : Row ((ds.drop 4).take 5) := fun d h => hd d (List.mem_of_mem_drop (List.mem_of_mem_take h))
  have hl5 : ((ds.drop 4).take 5).length = 5 := by simp; omega
  have b0 := hd.at 0
  have b1 := hd.at 1
  have b2 := hd.at 2
  have b3 := hd.at 3
  have m0 : iMod (bI ds 0) (houses : Int) = some (bI ds 0 % (houses : Int)) := iMod_pos (by omega)
  have o1 := Int.emod_nonneg (bI ds 0) (show (houses : Int) ≠ 0 by omega)
  have o2 := Int.emod_lt_of_pos (bI ds 0) (show 0 < (houses : Int) by omega)
  have m1 : iMod (bI ds 1) 2 = some (bI ds 1 % 2) := iMod_pos (by omega)
  have m2' : iMod (bI ds 2) 201 = some (bI ds 2 % 201) := iMod_pos (by omega)
  have m3 : iMod (bI ds 2) 9 = some (bI ds 2 % 9) := iMod_pos (by omega)
  have m4 : iMod (bI ds 2) 100 = some (bI ds 2 % 100) := iMod_pos (by omega)
  have m5 : iMod (bI ds 2) 50 = some (bI ds 2 % 50) := iMod_pos (by omega)
  have m6 : iMod (bI ds 3) 25 = some (bI ds 3 % 25) := iMod_pos (by omega)
  have m7 : iDiv (bI ds 1) 2 = some (bI ds 1 / 2) := iDiv_pos (by omega) (by omega)
  have m8 : iMod (bI ds 1 / 2) 3 = some (bI ds 1 / 2 % 3) := iMod_pos (by omega)
  obtain ⟨ls, L, Lo, hL⟩ := lines_eq2 (house := bI ds 0 % (houses : Int)) h2 h6 hr5 hl5
  generalize (ds.drop 4).take 5 = d5 at *
  generalize hh : bI ds 0 % (houses : Int) = house at *
  have hb : ∃ b : Bool, bI ds 1 % 2 = if b = true then 0 else 1 := by
    by_cases e : bI ds 1 % 2 = 0
    · exact ⟨true, by rw [e]; rfl⟩
    · exact ⟨false, by rw [if_neg (by decide)]; omega⟩
  obtain ⟨b, hb⟩ := hb
  have ka := kinds_at _ b hb
  have ht : ∃ t : Nat, bI ds 1 / 2 % 3 = (t : Int) ∧ t < 3 := ⟨(bI ds 1 / 2 % 3).toNat, by omega, by omega⟩
  obtain ⟨t, ht, ht3⟩ := ht
  obtain ⟨by_, hby, hrun⟩ : ∃ by_ : Int, ByOk b by_ ∧ m_law_cover [.fz (.int (houses : Int)), .fz (.lst (ds.map D.int)), .un, .un, .un, .un] = .rt (.fz (.tup [.int house, kindD b, .int by_, .int (bI ds 3 % 25), linesD ls])) [.fz (.int (houses : Int)), .fz (.lst (ds.map D.int)), .fz (.int house), .fz (kindD b), .fz (.int by_), .fz (.int (bI ds 3 % 25))] := by
    cases b with
    | false =>
      by_cases e : t = 1
      · refine ⟨bI ds 2 % 9, ⟨fun z => (by cases z), fun _ => by omega⟩, ?_⟩
        subst e
        simp [m_law_cover, i0, i1, i2, i3, c1, m0, m1, m2', m3, m4, m5, m6, m7, m8, hh, hL, ka, ht, kEq_ls]
      · refine ⟨bI ds 2 % 201, ⟨fun z => (by cases z), fun _ => by omega⟩, ?_⟩
        have e' : ¬ ((t : Int) = 1) := by omega
        simp at ka
        simp [m_law_cover, i0, i1, i2, i3, c1, m0, m1, m2', m3, m4, m5, m6, m7, m8, hh, hL, ka, ht, e, e', kEq_ls]
    | true =>
      have k3 : ∃ x : Int, (1 ≤ x ∧ x ≤ 100) ∧ kIx (.fz (.lst [.int (1 + bI ds 2 % 100), .int 100, .int (50 + bI ds 2 % 50)])) (.fz (.int (t : Int))) = some (.int x) := by
        match t, ht3 with
        | 0, _ => exact ⟨1 + bI ds 2 % 100, by omega, kIx_ok (j := 0) rfl rfl rfl⟩
        | 1, _ => exact ⟨100, by omega, kIx_ok (j := 1) rfl rfl rfl⟩
        | 2, _ => exact ⟨50 + bI ds 2 % 50, by omega, kIx_ok (j := 2) rfl rfl rfl⟩
      obtain ⟨x, hx, hk⟩ := k3
      refine ⟨x, ⟨fun _ => hx, fun z => (by cases z)⟩, ?_⟩
      simp at ka
      by_cases e' : (t : Int) = 1
      · simp [m_law_cover, i0, i1, i2, i3, c1, m0, m1, m2', m3, m4, m5, m6, m7, m8, hh, hL, ka, ht, e', kEq_ss]
        rw [e'] at hk
        simp [hk, i0, i1, i2, i3, c1, m0, m1, m2', m3, m4, m5, m6, m7, m8, hh, hL]
      · have e'' : ¬ (t = 1) := by omega
        simp [m_law_cover, i0, i1, i2, i3, c1, m0, m1, m2', m3, m4, m5, m6, m7, m8, hh, hL, ka, ht, e', e'', kEq_ss, hk]
  exact ⟨⟨house, b, by_, bI ds 3 % 25, ls⟩, ⟨⟨o1, o2⟩, hby, ⟨by show 0 ≤ bI ds 3 % 25; omega, by show bI ds 3 % 25 ≤ 24; omega⟩, L, Lo⟩, runF_rt (e := [.fz (.int (houses : Int)), .fz (.lst (ds.map D.int)), .fz (.int house), .fz (kindD b), .fz (.int by_), .fz (.int (bI ds 3 % 25))]) rfl (by decide) hrun (fun l o z => by cases z)⟩
theorem is_by_eq {share : Bool} {b : Int} (h : ByOk share b) : f_is_by [.fz (kindD share), .fz (.int b)] = .ok (.fz (.bl true)) none := by
  refine runF_rt rfl (by decide) (e := [.fz (kindD share), .fz (.int b)]) ?_ (fun l o z => by cases z)
  show m_is_by [.fz (kindD share), .fz (.int b)] = _
  cases share with
  | true =>
    have := h.sh rfl
    simp [m_is_by, kEq_ss, this.1, this.2]
  | false =>
    have := h.la rfl
    simp [m_is_by, kEq_ls, kEq_ll, this.1, this.2]
def tk (share : Bool) (b most reach : Int) : Int := if share = true then (if reach * b / 100 < most then reach * b / 100 else most) else (if (if reach - b > 0 then reach - b else 0) < most then (if reach - b > 0 then reach - b else 0) else most)
theorem tk_share (b most reach : Int) : tk true b most reach = (if reach * b / 100 < most then reach * b / 100 else most) := rfl
theorem tk_layer (b most reach : Int) : tk false b most reach = (if (if reach - b > 0 then reach - b else 0) < most then (if reach - b > 0 then reach - b else 0) else most) := rfl
theorem kMin2_i (i j : Int) : kMin2 [.fz (.int i), .fz (.int j)] = some (if j < i then j else i) := rfl
theorem kMax2_i (i j : Int) : kMax2 [.fz (.int i), .fz (.int j)] = some (if j > i then j else i) := rfl
theorem taken_eq {share : Bool} {b most reach : Int} (h : ByOk share b) : f_taken [.fz (kindD share), .fz (.int b), .fz (.int most), .fz (.int reach)] = .ok (.fz (.int (tk share b most reach))) none := by
  refine runF_rt rfl (by decide) (e := [.fz (kindD share), .fz (.int b), .fz (.int most), .fz (.int reach)]) ?_ (fun l o z => by cases z)
  show m_taken [.fz (kindD share), .fz (.int b), .fz (.int most), .fz (.int reach)] = _
  cases share with
  | true =>
    have := h.sh rfl
    have k1 : iMul reach b = some (reach * b) := iMul_r (by omega) (by omega)
    have k2 : ∀ x, iDiv x 100 = some (x / 100) := fun x => iDiv_pos (by omega) (by omega)
    simp [m_taken, kEq_ss, k1, k2, kMin2_i, tk]
  | false =>
    simp [m_taken, kEq_ls, kMin2_i, kMax2_i, tk]
/-! a table's data -/
structure Tab where
  size : Nat
  rows : List Cov
  befell : List Int
structure Tab.Ok (t : Tab) : Prop where
  size : 1 ≤ t.size ∧ t.size ≤ 6
  few : t.rows.length ≤ 10
  rows : ∀ c ∈ t.rows, c.Ok t.size
  len : t.befell.length = t.size
  befell : ∀ x ∈ t.befell, 0 ≤ x ∧ x ≤ 9999
def Cov.split (c : Cov) : D := .lst ((rowsOf c.lines c.most.toNat).map intsD)
def Tab.d (t : Tab) : D := .obj "Table" [("size", .int t.size), ("rows", .lst (t.rows.map Cov.d)), ("befell", intsD t.befell), ("splits", .lst (t.rows.map Cov.split))]
def Tab.o (t : Tab) : O := .obj "Table" [("size", .fz (.int t.size)), ("rows", .fz (.lst (t.rows.map Cov.d))), ("befell", .fz (intsD t.befell)), ("splits", .fz (.lst (t.rows.map Cov.split)))]
@[simp] theorem Tab.cold (t : Tab) : t.o.cold = t.d := id rfl
theorem look_houses_eq {n : Nat} (h : 1 ≤ n ∧ n ≤ 6) : f_look_houses [.fz (.int (n : Int))] = .ok (.fz .non) none := by
  refine runF_nx rfl (by decide) (e := [.fz (.int (n : Int))]) ?_
  have c1 : ¬ ((n : Int) < 1) := by omega
  have c2 : ¬ (6 < (n : Int)) := by omega
  show m_look_houses [.fz (.int (n : Int))] = _
  simp [m_look_houses, c1, c2]
theorem is_cover_true {c : Cov} {n : Nat} (h : c.Ok n) : f_is_cover [.fz (.int (n : Int)), .fz c.d] = .ok (.fz (.bl true)) none := by
  have hf := h.lines.good.few
  obtain ⟨e', h1, s7, s8, f7, f8, he⟩ := forD_inv (g := (gT (gsCons (gN 7) (gsCons (gN 8) gsNil)) 2)) (b := m_is_cover_l1) (ds := c.lines.map pairD)
    (env := [.fz (.int (n : Int)), .fz c.d, .fz (.int c.house), .fz (kindD c.share), .fz (.int c.by_), .fz (.int c.most), .fz (linesD c.lines), .un, .un])
    (fun i e => ∃ s7 s8, S.free s7 = true ∧ S.free s8 = true ∧ e = [.fz (.int (n : Int)), .fz c.d, .fz (.int c.house), .fz (kindD c.share), .fz (.int c.by_), .fz (.int c.most), .fz (linesD c.lines), s7, s8])
    ⟨.un, .un, rfl, rfl, rfl⟩ (fun i d e hd ⟨s7, s8, f7, f8, he⟩ => by
      subst he
      obtain ⟨p, hp, rfl⟩ := List.mem_map.mp (List.mem_of_getElem? hd)
      have hq := h.others p hp
      have c1 : ¬ ((n : Int) ≤ p.1) := by omega
      exact ⟨[.fz (.int (n : Int)), .fz c.d, .fz (.int c.house), .fz (kindD c.share), .fz (.int c.by_), .fz (.int c.most), .fz (linesD c.lines), .fz (.int p.1), .fz (.int p.2)], [.fz (.int (n : Int)), .fz c.d, .fz (.int c.house), .fz (kindD c.share), .fz (.int c.by_), .fz (.int c.most), .fz (linesD c.lines), .fz (.int p.1), .fz (.int p.2)], by simp [pairD, f7, f8], .inl (by simp [m_is_cover_l1, c1, hq.2.2]), _, _, rfl, rfl, rfl⟩)
  subst he
  refine runF_rt rfl (by decide) (e := [.fz (.int (n : Int)), .fz c.d, .fz (.int c.house), .fz (kindD c.share), .fz (.int c.by_), .fz (.int c.most), .fz (linesD c.lines), s7, s8]) ?_ (fun l o z => by cases z)
  have k1 : kLen [.fz c.d] = some 5 := rfl
  have c1 : ¬ (c.house < 0) := by have := h.house; omega
  have c2 : ¬ ((n : Int) ≤ c.house) := by have := h.house; omega
  have c3 : ¬ (c.most < 0) := by have := h.most; omega
  have c4 : ¬ (24 < c.most) := by have := h.most; omega
  have i := is_by_eq h.by_
  have a := are_lines_eq h.lines
  have u : unpK (gT (gsCons (gN 2) (gsCons (gN 3) (gsCons (gN 4) (gsCons (gN 5) (gsCons (gN 6) gsNil))))) 5) (.ok (.fz c.d)) [.fz (.int (n : Int)), .fz c.d, .un, .un, .un, .un, .un, .un, .un] = .nx [.fz (.int (n : Int)), .fz c.d, .fz (.int c.house), .fz (kindD c.share), .fz (.int c.by_), .fz (.int c.most), .fz (linesD c.lines), .un, .un] := rfl
  have k : forK P.tup? (.ok (.fz (linesD c.lines))) (gT (gsCons (gN 7) (gsCons (gN 8) gsNil)) 2) m_is_cover_l1 [.fz (.int (n : Int)), .fz c.d, .fz (.int c.house), .fz (kindD c.share), .fz (.int c.by_), .fz (.int c.most), .fz (linesD c.lines), .un, .un] = _ := h1
  show m_is_cover [.fz (.int (n : Int)), .fz c.d, .un, .un, .un, .un, .un, .un, .un] = _
  generalize kindD c.share = kd at *
  generalize linesD c.lines = ld at *
  simp [m_is_cover, k1, u, c1, c2, c3, c4, i, a, k]
/-! attributes -/
def attK (n f : Str) (i : Nat) (s : Option S) (r : Res P) (env : Env) : Fl := match s with
  | some (.mu (.obj n' fs)) => if n' = n ∧ fs.length < 1000 then (match r with
    | .ok (.fz d) => .nx (env.set i (.mu (.obj n (putFd f (.fz d) fs))))
    | .rs x => .rs x env
    | _ => .stuck) else .stuck
  | _ => .stuck
@[simp] theorem sAtt_eq (n f : Str) (i : Nat) (a : Env → Res P) (env : Env) : sAtt n f i a env = attK n f i env[i]? (a env) env := id rfl
theorem attK_mu (n f : Str) (i : Nat) (fs : List (Str × F)) (d : D) (env : Env) (h : fs.length < 1000) : attK n f i (some (.mu (.obj n fs))) (.ok (.fz d)) env = .nx (env.set i (.mu (.obj n (putFd f (.fz d) fs)))) := if_pos ⟨rfl, h⟩
@[simp] theorem mAtt_eq (n f : Str) (a : Env → Res P) (env : Env) : mAtt n f a env = (a env).bind fun x => .of (kAtt n f x) := id rfl
theorem put_size (x : F) : putFd "size" x [] = [(("size" : Str), x)] := rfl
theorem put_rows (x a : F) : putFd "rows" x [(("size" : Str), a)] = [(("size" : Str), a), (("rows" : Str), x)] := by
  simp [putFd, show ¬ (("size" : Str) = "rows") by decide +kernel]
theorem put_befell (x a b : F) : putFd "befell" x [(("size" : Str), a), (("rows" : Str), b)] = [(("size" : Str), a), (("rows" : Str), b), (("befell" : Str), x)] := by
  simp [putFd, show ¬ (("size" : Str) = "befell") by decide +kernel, show ¬ (("rows" : Str) = "befell") by decide +kernel]
theorem put_splits (x a b c : F) : putFd "splits" x [(("size" : Str), a), (("rows" : Str), b), (("befell" : Str), c)] = [(("size" : Str), a), (("rows" : Str), b), (("befell" : Str), c), (("splits" : Str), x)] := by
  simp [putFd, show ¬ (("size" : Str) = "splits") by decide +kernel, show ¬ (("rows" : Str) = "splits") by decide +kernel, show ¬ (("befell" : Str) = "splits") by decide +kernel]
theorem kAtt_obj (n f : Str) (fs : List (Str × D)) : kAtt n f (.fz (.obj n fs)) = (fs.lookup f).map P.fz := if_pos rfl
@[simp] theorem att_size (t : Tab) : kAtt "Table" "size" (.fz t.d) = some (.fz (.int t.size)) := by
  unfold Tab.d; rw [kAtt_obj]
  simp [List.lookup]
@[simp] theorem att_rows (t : Tab) : kAtt "Table" "rows" (.fz t.d) = some (.fz (.lst (t.rows.map Cov.d))) := by
  unfold Tab.d; rw [kAtt_obj]
  simp [List.lookup, show (("rows" : Str) == "size") = false by decide +kernel]
@[simp] theorem att_befell (t : Tab) : kAtt "Table" "befell" (.fz t.d) = some (.fz (intsD t.befell)) := by
  unfold Tab.d; rw [kAtt_obj]
  simp [List.lookup, show (("befell" : Str) == "size") = false by decide +kernel, show (("befell" : Str) == "rows") = false by decide +kernel]
@[simp] theorem att_splits (t : Tab) : kAtt "Table" "splits" (.fz t.d) = some (.fz (.lst (t.rows.map Cov.split))) := by
  unfold Tab.d; rw [kAtt_obj]
  simp [List.lookup, show (("splits" : Str) == "size") = false by decide +kernel, show (("splits" : Str) == "rows") = false by decide +kernel, show (("splits" : Str) == "befell") = false by decide +kernel]
theorem init_eq {t : Tab} (h : t.Ok) : f_Table___init__ [.mu (.obj "Table" []), .fz (.int t.size), .fz (.lst (t.rows.map Cov.d)), .fz (intsD t.befell)] = .ok (.fz .non) (some t.o) := by
  have hl : f_look_houses [.fz (.int (t.size : Int))] = .ok (.fz .non) none := look_houses_eq h.size
  have hfew := h.few
  have hlen := h.len
  have hs := h.size
  obtain ⟨e1, w1, s4, f4, he1⟩ := forD_inv (g := gN 4) (b := m_Table___init___l1) (ds := t.rows.map Cov.d) (env := [.mu (.obj "Table" []), .fz (.int t.size), .fz (.lst (t.rows.map Cov.d)), .fz (intsD t.befell), .un, .un])
    (fun i e => ∃ s4, S.free s4 = true ∧ e = [.mu (.obj "Table" []), .fz (.int t.size), .fz (.lst (t.rows.map Cov.d)), .fz (intsD t.befell), s4, .un]) ⟨.un, rfl, rfl⟩ (fun i d e hd ⟨s4, f4, he⟩ => by
      subst he
      obtain ⟨c, hc, rfl⟩ := List.mem_map.mp (List.mem_of_getElem? hd)
      have ic := is_cover_true (h.rows c hc)
      exact ⟨[.mu (.obj "Table" []), .fz (.int t.size), .fz (.lst (t.rows.map Cov.d)), .fz (intsD t.befell), .fz c.d, .un], [.mu (.obj "Table" []), .fz (.int t.size), .fz (.lst (t.rows.map Cov.d)), .fz (intsD t.befell), .fz c.d, .un], by simp [f4], .inl (by simp [m_Table___init___l1, ic]), _, rfl, rfl⟩)
  subst he1
  obtain ⟨e2, w2, s5, f5, he2⟩ := forD_inv (g := gN 5) (b := m_Table___init___l2) (ds := t.befell.map D.int) (env := [.mu (.obj "Table" []), .fz (.int t.size), .fz (.lst (t.rows.map Cov.d)), .fz (intsD t.befell), s4, .un])
    (fun i e => ∃ s5, S.free s5 = true ∧ e = [.mu (.obj "Table" []), .fz (.int t.size), .fz (.lst (t.rows.map Cov.d)), .fz (intsD t.befell), s4, s5]) ⟨.un, rfl, rfl⟩ (fun i d e hd ⟨s5, f5, he⟩ => by
      subst he
      obtain ⟨x, hx, rfl⟩ := List.mem_map.mp (List.mem_of_getElem? hd)
      have b := h.befell x hx
      have c1 : ¬ x < 0 := by omega
      have c2 : ¬ 9999 < x := by omega
      exact ⟨[.mu (.obj "Table" []), .fz (.int t.size), .fz (.lst (t.rows.map Cov.d)), .fz (intsD t.befell), s4, .fz (.int x)], [.mu (.obj "Table" []), .fz (.int t.size), .fz (.lst (t.rows.map Cov.d)), .fz (intsD t.befell), s4, .fz (.int x)], by simp [f5], .inl (by simp [m_Table___init___l2, c1, c2]), _, rfl, rfl⟩)
  subst he2
  have cm : mComp 4 tYesB (mOp (mCall f_grown_parts (mCons (mIx (mVar 4) (mC (.int 4))) (mCons (mIx (mVar 4) (mC (.int 3))) mNil)))) (t.rows.map Cov.d)
      [.mu (.obj "Table" [("size", .fz (.int t.size)), ("rows", .fz (.lst (t.rows.map Cov.d))), ("befell", .fz (intsD t.befell))]), .fz (.int t.size), .fz (.lst (t.rows.map Cov.d)), .fz (intsD t.befell), s4, s5] = .ok (.tmp (.lst (t.rows.map Cov.split))) := by
    refine mComp_map Cov.d _ (by simp [f4]) (by simp) (by omega) fun c hc => ?_
    have ho := h.rows c hc
    have hm := ho.most
    have x3 : kIx (.fz c.d) (.fz (.int 3)) = some (.int c.most) := kIx_ok (j := 3) rfl rfl rfl
    have x4 : kIx (.fz c.d) (.fz (.int 4)) = some (linesD c.lines) := kIx_ok (j := 4) rfl rfl rfl
    have e : c.most = ((c.most.toNat : Nat) : Int) := by omega
    have gp := grown_parts_eq ho.lines.good (n := c.most.toNat) (by omega)
    rw [← e] at gp
    simp [x3, x4, gp, Cov.split]
  have k1 : kLen [.fz (.lst (t.rows.map Cov.d))] = some (t.rows.length : Int) := by simp
  have k2 : kLen [.fz (intsD t.befell)] = some (t.size : Int) := by simp [intsD, hlen]
  have k3 : ¬ (10 < (t.rows.length : Int)) := by omega
  have z1 : forK P.it? (.ok (.fz (intsD t.befell))) (gN 5) m_Table___init___l2 [.mu (.obj "Table" []), .fz (.int t.size), .fz (.lst (t.rows.map Cov.d)), .fz (intsD t.befell), s4, .un] = _ := w2
  have z2 : kListc [.fz (intsD t.befell)] = some (t.befell.map D.int) := rfl
  refine runF_nx rfl (by decide) (e := [.mu t.o, .fz (.int t.size), .fz (.lst (t.rows.map Cov.d)), .fz (intsD t.befell), s4, s5]) ?_
  show m_Table___init__ [.mu (.obj "Table" []), .fz (.int t.size), .fz (.lst (t.rows.map Cov.d)), .fz (intsD t.befell), .un, .un] = _
  have e9 : D.lst (t.befell.map D.int) = intsD t.befell := rfl
  generalize hB : intsD t.befell = B at *
  generalize hR : t.rows.map Cov.d = rs at *
  simp [m_Table___init__, hl, k1, k2, k3, w1, z1, z2, attK_mu, put_size, put_rows, put_befell, put_splits, cm, e9, Tab.o, hB, hR]
theorem made_eq {t : Tab} (h : t.Ok) : mMade (f_Table___init__ [.mu (.obj "Table" []), .fz (.int t.size), .fz (.lst (t.rows.map Cov.d)), .fz (intsD t.befell)]) = .ok (.tmp t.o) := by rw [init_eq h]; rfl
@[simp] theorem mMake_eq (n : Str) (f : List S → CallR) (a : Env → Res (List P)) (env : Env) : mMake n f a env = (a env).bind fun ps => mMade (f (.mu (.obj n []) :: ps.map P.s)) := id rfl
theorem rows_eq {houses : Nat} {ds : List Int} (h1 : 1 ≤ houses) (h6 : houses ≤ 6) (hd : Row ds) (hl : ds.length = 91) :
    ∃ rows : List Cov, rows.length ≤ 10 ∧ (∀ c ∈ rows, c.Ok houses) ∧ (mRun (f_law_rows [.fz (.int (houses : Int)), .fz (.lst (ds.map D.int))])).map R.op = .ok (.fz (.lst (rows.map Cov.d))) := by
  by_cases one : houses = 1
  · refine ⟨[], by simp, fun c hc => (by cases hc), ?_⟩
    have : f_law_rows [.fz (.int (houses : Int)), .fz (.lst (ds.map D.int))] = .ok (.tmp (.lst [])) none := by
      refine runF_rt rfl (by decide) (e := [.fz (.int (houses : Int)), .fz (.lst (ds.map D.int)), .un, .un, .un]) ?_ (fun l o z => by cases z)
      subst one
      show m_law_rows [.fz (.int ((1 : Nat) : Int)), .fz (.lst (ds.map D.int)), .un, .un, .un] = _
      simp [m_law_rows]
    rw [this]; rfl
  have i0 : kIx (.fz (.lst (ds.map D.int))) (.fz (.int 0)) = some (.int (bI ds 0)) := kIx_ints rfl (by omega)
  have b0 := hd.at 0
  obtain ⟨m, hm, hm11⟩ := emod_nat (a := bI ds 0) (b := 11) (by omega)
  have m0 : iMod (bI ds 0) 11 = some (m : Int) := by rw [iMod_pos (by omega), hm]
  have m1 : iDiv (bI ds 0) 11 = some (bI ds 0 / 11) := iDiv_pos (by omega) (by omega)
  have m2' : iMod (bI ds 0 / 11) 6 = some (bI ds 0 / 11 % 6) := iMod_pos (by omega)
  have H : ∀ i : Nat, ∃ c : Cov, i < m → (c.Ok houses ∧ f_law_cover [.fz (.int (houses : Int)), .fz (.lst (((ds.drop (1 + 9 * i)).take (10 + 9 * i - (1 + 9 * i))).map D.int))] = .ok (.fz c.d) none) := fun i => by
    by_cases hi : i < m
    · obtain ⟨c, hc, q⟩ := cover_eq (houses := houses) (by omega) h6 (hd.slice (1 + 9 * i) (10 + 9 * i - (1 + 9 * i))) (by rw [slice_len (by omega) (by omega)]; omega)
      exact ⟨c, fun _ => ⟨hc, q⟩⟩
    · exact ⟨⟨0, true, 1, 0, []⟩, fun z => absurd z hi⟩
  have hcs : ∃ cs : Nat → Cov, ∀ i, i < m → ((cs i).Ok houses ∧ f_law_cover [.fz (.int (houses : Int)), .fz (.lst (((ds.drop (1 + 9 * i)).take (10 + 9 * i - (1 + 9 * i))).map D.int))] = .ok (.fz (cs i).d) none) := ⟨fun i => Classical.choose (H i), fun i hi => Classical.choose_spec (H i) hi⟩
  obtain ⟨cs, hcs⟩ := hcs
  have kr : kRng1 [.fz (.int (m : Int))] = some (0, m) := kRng1_nat (by omega)
  have c1 : mComp 4 tYesB (mOp (mCall f_law_cover (mCons (mVar 0) (mCons (mOp (mSlL (mVar 1) (mPart (mI iAdd (mC (.int 1)) (mI iMul (mC (.int 9)) (mVar 4)))) (mPart (mI iAdd (mC (.int 10)) (mI iMul (mC (.int 9)) (mVar 4)))))) mNil)))) (rngD 0 m)
      [.fz (.int (houses : Int)), .fz (.lst (ds.map D.int)), .fz (.int (m : Int)), .un, .un] = .ok (.tmp (.lst (((List.range m).map cs).map Cov.d))) := by
    rw [List.map_map]
    refine mComp_rng _ rfl (by omega) (by simp) (fun i hi => rfl) (fun i hi => ?_)
    have s1 : kSlL (.fz (.lst (ds.map D.int))) (some (1 + 9 * (0 + (i : Int)))) (some (10 + 9 * (0 + (i : Int)))) = some (((ds.drop (1 + 9 * i)).take (10 + 9 * i - (1 + 9 * i))).map D.int) := slice_ints (by omega) (by omega) (by omega) (by omega)
    have q := (hcs i hi).2
    have im : ∀ x, iMul 9 x = some (9 * x) := fun x => iMul_l (by omega) (by omega)
    generalize (((ds.drop (1 + 9 * i)).take (10 + 9 * i - (1 + 9 * i))).map D.int) = zs at *
    generalize (0 + (i : Int)) = z at *
    simp [s1, q, im]
  have hne : ¬ ((houses : Int) = 1) := by omega
  by_cases c : bI ds 0 / 11 % 6 = 1
  · refine ⟨(List.range m).map fun i => cs (i / 2), by simp; omega, fun c hc => ?_, ?_⟩
    · obtain ⟨i, hi, rfl⟩ := List.mem_map.mp hc
      have := List.mem_range.mp hi
      exact (hcs (i / 2) (by omega)).1
    have c2 : mComp 4 tYesB (mIx (mVar 3) (mI iDiv (mVar 4) (mC (.int 2)))) (rngD 0 m) [.fz (.int (houses : Int)), .fz (.lst (ds.map D.int)), .fz (.int (m : Int)), .fz (.lst (((List.range m).map cs).map Cov.d)), .un] = .ok (.tmp (.lst (((List.range m).map fun i => cs (i / 2)).map Cov.d))) := by
      rw [List.map_map (l := List.range m) (f := fun i => cs (i / 2))]
      refine mComp_rng _ rfl (by omega) (by simp) (fun i hi => rfl) (fun i hi => ?_)
      have id : iDiv (0 + (i : Int)) 2 = some ((0 + (i : Int)) / 2) := iDiv_pos (by omega) (by omega)
      have ix : kIx (.fz (.lst (((List.range m).map cs).map Cov.d))) (.fz (.int ((0 + (i : Int)) / 2))) = some (cs (i / 2)).d := by
        refine kIx_ok (j := i / 2) rfl (by omega) ?_
        rw [List.getElem?_map, List.getElem?_map, List.getElem?_range (by omega)]; rfl
      generalize (0 + (i : Int)) = z at *
      generalize (((List.range m).map cs).map Cov.d) = zs at *
      simp [id, ix]
    have : f_law_rows [.fz (.int (houses : Int)), .fz (.lst (ds.map D.int))] = .ok (.fz (.lst (((List.range m).map fun i => cs (i / 2)).map Cov.d))) none := by
      refine runF_rt rfl (by decide) (e := [.fz (.int (houses : Int)), .fz (.lst (ds.map D.int)), .fz (.int (m : Int)), .fz (.lst (((List.range m).map fun i => cs (i / 2)).map Cov.d)), .un]) ?_ (fun l o z => by cases z)
      show m_law_rows [.fz (.int (houses : Int)), .fz (.lst (ds.map D.int)), .un, .un, .un] = _
      generalize (((List.range m).map fun i => cs (i / 2)).map Cov.d) = z1 at *
      generalize (((List.range m).map cs).map Cov.d) = z2 at *
      simp [m_law_rows, hne, i0, m0, kr, c1, m1, m2', c, c2]
    rw [this]; rfl
  · refine ⟨(List.range m).map cs, by simp; omega, fun c hc => ?_, ?_⟩
    · obtain ⟨i, hi, rfl⟩ := List.mem_map.mp hc
      exact (hcs i (List.mem_range.mp hi)).1
    have : f_law_rows [.fz (.int (houses : Int)), .fz (.lst (ds.map D.int))] = .ok (.fz (.lst (((List.range m).map cs).map Cov.d))) none := by
      refine runF_rt rfl (by decide) (e := [.fz (.int (houses : Int)), .fz (.lst (ds.map D.int)), .fz (.int (m : Int)), .fz (.lst (((List.range m).map cs).map Cov.d)), .un]) ?_ (fun l o z => by cases z)
      show m_law_rows [.fz (.int (houses : Int)), .fz (.lst (ds.map D.int)), .un, .un, .un] = _
      generalize (((List.range m).map cs).map Cov.d) = z2 at *
      simp [m_law_rows, hne, i0, m0, kr, c1, m1, m2', c]
    rw [this]; rfl
theorem losses_eq {houses : Nat} {ds : List Int} (h6 : houses ≤ 6) (hd : Row ds) (hl : ds.length = 7) :
    ∃ xs : List Int, xs.length = houses ∧ (∀ x ∈ xs, 0 ≤ x ∧ x ≤ 9999) ∧ f_law_losses [.fz (.int (houses : Int)), .fz (.lst (ds.map D.int))] = .ok (.tmp (.lst (xs.map D.int))) none := by
  have i0 : kIx (.fz (.lst (ds.map D.int))) (.fz (.int 0)) = some (.int (bI ds 0)) := kIx_ints rfl (by omega)
  obtain ⟨e', h1, xs, s3, s4, g1, g2, f3, f4, he⟩ := forD_inv (g := gN 3) (b := m_law_losses_l1) (ds := rngD 0 houses) (env := [.fz (.int (houses : Int)), .fz (.lst (ds.map D.int)), .ow (.lst []), .un, .un])
    (fun i e => ∃ xs s3 s4, xs.length = i ∧ (∀ x ∈ xs, (0 : Int) ≤ x ∧ x ≤ 9999) ∧ S.free s3 = true ∧ S.free s4 = true ∧ e = [.fz (.int (houses : Int)), .fz (.lst (ds.map D.int)), .ow (.lst (xs.map D.int)), s3, s4])
    ⟨[], .un, .un, rfl, fun x h => (by cases h), rfl, rfl, rfl⟩ (fun i d e hdd ⟨xs, s3, s4, g1, g2, f3, f4, he⟩ => by
      obtain ⟨hi, rfl⟩ := rngD_at hdd
      subst he
      rw [Int.zero_add]
      have i1 : kIx (.fz (.lst (ds.map D.int))) (.fz (.int (1 + (i : Int)))) = some (.int (bI ds (1 + i))) := kIx_ints (by omega) (by omega)
      have b0 := hd.at 0
      have b1 := hd.at (1 + i)
      have k1 : ∀ x, iMod x 12 = some (x % 12) := fun x => iMod_pos (by omega)
      have k2 : ∀ x, iMod x 90 = some (x % 90) := fun x => iMod_pos (by omega)
      have k3 : ∀ x, iMod x 300 = some (x % 300) := fun x => iMod_pos (by omega)
      have k4 : ∀ x, iMod x 10000 = some (x % 10000) := fun x => iMod_pos (by omega)
      have k5 : iMul (bI ds (1 + i)) 9 = some (bI ds (1 + i) * 9) := iMul_l (by omega) (by omega)
      have k6 : ∀ x, iDiv x 300 = some (x / 300) := fun x => iDiv_pos (by omega) (by omega)
      obtain ⟨j, hj, hj5⟩ := emod_nat (a := bI ds 0 + bI ds (1 + i) / 300) (b := 5) (by omega)
      have k7 : iMod (bI ds 0 + bI ds (1 + i) / 300) 5 = some (j : Int) := by rw [iMod_pos (by omega), hj]
      have hx : ∃ x : Int, (0 ≤ x ∧ x ≤ 9999) ∧ kIx (.fz (.lst [.int 0, .int (bI ds (1 + i) % 12), .int (bI ds (1 + i) % 90), .int (bI ds (1 + i) % 300), .int (bI ds (1 + i) * 9 % 10000)])) (.fz (.int (j : Int))) = some (.int x) := by
        match j, hj5 with
        | 0, _ => exact ⟨0, by omega, kIx_ok (j := 0) rfl rfl rfl⟩
        | 1, _ => exact ⟨_, by omega, kIx_ok (j := 1) rfl rfl rfl⟩
        | 2, _ => exact ⟨_, by omega, kIx_ok (j := 2) rfl rfl rfl⟩
        | 3, _ => exact ⟨_, by omega, kIx_ok (j := 3) rfl rfl rfl⟩
        | 4, _ => exact ⟨_, by omega, kIx_ok (j := 4) rfl rfl rfl⟩
        | n + 5, h => exfalso; omega
      obtain ⟨x, hx, kx⟩ := hx
      have hlen : xs.length < 16777216 := by omega
      refine ⟨[.fz (.int (houses : Int)), .fz (.lst (ds.map D.int)), .ow (.lst (xs.map D.int)), .fz (.int (i : Int)), s4], [.fz (.int (houses : Int)), .fz (.lst (ds.map D.int)), .ow (.lst ((xs ++ [x]).map D.int)), .fz (.int (i : Int)), .fz (.int (bI ds (1 + i)))], by simp [f3], .inl ?_, xs ++ [x], _, _, by simp; omega, fun y hy => ?_, rfl, rfl, rfl⟩
      · simp [m_law_losses_l1, f4, i0, i1, k1, k2, k3, k4, k5, k6, k7, kx, hlen]
      · rcases List.mem_append.mp hy with hy | hy
        · exact g2 y hy
        · rw [List.mem_singleton.mp hy]; exact hx)
  subst he
  rw [rngD_len] at g1
  refine ⟨xs, g1, g2, runF_rt rfl (by decide) (e := [.fz (.int (houses : Int)), .fz (.lst (ds.map D.int)), .ow (.lst (xs.map D.int)), s3, s4]) ?_ (fun l o z => by cases z)⟩
  have kr : kRng1 [.fz (.int (houses : Int))] = some (0, houses) := kRng1_nat (by omega)
  show m_law_losses [.fz (.int (houses : Int)), .fz (.lst (ds.map D.int)), .un, .un, .un] = _
  simp [m_law_losses, kr, h1]
theorem lawmade_eq {ds : List Int} (hd : Row ds) (hl : 99 ≤ ds.length) :
    ∃ t : Tab, t.Ok ∧ f_law_made [.fz (.lst (ds.map D.int))] = .ok (.fz (.tup [.int t.size, .lst (t.rows.map Cov.d), intsD t.befell])) none := by
  have i0 : kIx (.fz (.lst (ds.map D.int))) (.fz (.int 0)) = some (.int (bI ds 0)) := kIx_ints rfl (by omega)
  have b0 := hd.at 0
  obtain ⟨m, hm, hm6⟩ := emod_nat (a := bI ds 0 + 3) (b := 6) (by omega)
  have m0 : iMod (bI ds 0 + 3) 6 = some (m : Int) := by rw [iMod_pos (by omega), hm]
  have s1 : kSlL (.fz (.lst (ds.map D.int))) (some 8) (some 99) = some (((ds.drop 8).take (99 - 8)).map D.int) := slice_ints rfl rfl (by omega) (by omega)
  have s2 : kSlL (.fz (.lst (ds.map D.int))) (some 1) (some 8) = some (((ds.drop 1).take (8 - 1)).map D.int) := slice_ints rfl rfl (by omega) (by omega)
  obtain ⟨rows, r1, r2, r3⟩ := rows_eq (houses := 1 + m) (by omega) (by omega) (hd.slice 8 (99 - 8)) (by rw [slice_len (by omega) (by omega)])
  obtain ⟨xs, x1, x2, x3⟩ := losses_eq (houses := 1 + m) (by omega) (hd.slice 1 (8 - 1)) (by rw [slice_len (by omega) (by omega)])
  have e : ((1 + m : Nat) : Int) = 1 + (m : Int) := by omega
  refine ⟨⟨1 + m, rows, xs⟩, ⟨⟨by show 1 ≤ 1 + m; omega, by show 1 + m ≤ 6; omega⟩, r1, r2, x1, x2⟩, runF_rt rfl (by decide) (e := [.fz (.lst (ds.map D.int)), .fz (.int ((1 + m : Nat) : Int))]) ?_ (fun l o z => by cases z)⟩
  show m_law_made [.fz (.lst (ds.map D.int)), .un] = .rt (.fz (.tup [.int ((1 + m : Nat) : Int), .lst (rows.map Cov.d), intsD xs])) _
  generalize ((ds.drop 8).take (99 - 8)).map D.int = z1 at *
  generalize ((ds.drop 1).take (8 - 1)).map D.int = z2 at *
  rw [e] at r3 x3 ⊢
  generalize rows.map Cov.d = z3 at *
  simp [m_law_made, i0, m0, s1, s2, r3, x3, intsD]
@[simp] theorem mMeth_eq (n m : Str) (f : List S → CallR) (a : Env → Res P) (r : Env → Res (List P)) (env : Env) : mMeth n m f a r env = (a env).bind fun x => if isObj n m x = true then (r env).bind fun ps => mRun (f (x.s :: ps.map P.s)) else .stuck := id rfl
theorem isObj_tab (t : Tab) (m : Str) (h1 : m ≠ "size") (h2 : m ≠ "rows") (h3 : m ≠ "befell") (h4 : m ≠ "splits") : isObj "Table" m (.fz t.d) = true := by
  have e : (.fz t.d : P).obj? = some (("Table" : Str), [("size" : Str), "rows", "befell", "splits"]) := rfl
  unfold isObj
  rw [e]
  simp [h1, h2, h3, h4]
theorem isO_houses (t : Tab) : isObj "Table" "houses" (.fz t.d) = true := isObj_tab t _ (by decide +kernel) (by decide +kernel) (by decide +kernel) (by decide +kernel)
theorem isO_mosts (t : Tab) : isObj "Table" "mosts" (.fz t.d) = true := isObj_tab t _ (by decide +kernel) (by decide +kernel) (by decide +kernel) (by decide +kernel)
theorem isO_losses (t : Tab) : isObj "Table" "losses" (.fz t.d) = true := isObj_tab t _ (by decide +kernel) (by decide +kernel) (by decide +kernel) (by decide +kernel)
theorem isO_loads (t : Tab) : isObj "Table" "loads" (.fz t.d) = true := isObj_tab t _ (by decide +kernel) (by decide +kernel) (by decide +kernel) (by decide +kernel)
theorem isO_covers (t : Tab) : isObj "Table" "covers" (.fz t.d) = true := isObj_tab t _ (by decide +kernel) (by decide +kernel) (by decide +kernel) (by decide +kernel)
theorem isO_more (t : Tab) : isObj "Table" "more" (.fz t.d) = true := isObj_tab t _ (by decide +kernel) (by decide +kernel) (by decide +kernel) (by decide +kernel)
theorem isO_passed (t : Tab) : isObj "Table" "passed" (.fz t.d) = true := isObj_tab t _ (by decide +kernel) (by decide +kernel) (by decide +kernel) (by decide +kernel)
theorem houses_eq (t : Tab) : f_Table_houses [.fz t.d] = .ok (.fz (.int t.size)) none := by
  refine runF_rt rfl (by decide) (e := [.fz t.d]) ?_ (fun l o z => by cases z)
  show m_Table_houses [.fz t.d] = _
  simp [m_Table_houses]
theorem mosts_eq {t : Tab} (h : t.rows.length ≤ 10) : f_Table_mosts [.fz t.d] = .ok (.tmp (.lst ((t.rows.map Cov.most).map D.int))) none := by
  refine runF_rt rfl (by decide) (e := [.fz t.d, .un]) ?_ (fun l o z => by cases z)
  have c : mComp 1 tYesB (mIx (mVar 1) (mC (.int 3))) (t.rows.map Cov.d) [.fz t.d, .un] = .ok (.tmp (.lst ((t.rows.map Cov.most).map D.int))) := by
    rw [List.map_map]
    refine mComp_map Cov.d _ rfl (by simp) (by omega) fun c hc => ?_
    have x3 : kIx (.fz c.d) (.fz (.int 3)) = some (.int c.most) := kIx_ok (j := 3) rfl rfl rfl
    simp [x3]
  show m_Table_mosts [.fz t.d, .un] = _
  simp [m_Table_mosts, c]
/-- a list of ints handed to a def -/
structure IsL (s : S) (o : P) (xs : List Int) : Prop where
  v : ∀ i, varK i (some s) = .ok o
  seq : o.seq? = some (xs.map D.int)
  len : kLen [o] = some (xs.length : Int)
  sl : o.s = s
  free : s.free = true
  pdi : P.ints o xs
  lst : kListc [o] = some (xs.map D.int)
  it : o.it? = some (xs.map D.int)
theorem IsL.fz (xs : List Int) : IsL (.fz (.lst (xs.map D.int))) (.fz (.lst (xs.map D.int))) xs := ⟨fun _ => rfl, rfl, by simp, rfl, rfl, P.ints_fz _, rfl, rfl⟩
theorem IsL.rd (xs : List Int) : IsL (.rd (.lst (xs.map D.int))) (.bor .amb (.lst (xs.map D.int))) xs := ⟨fun _ => rfl, rfl, by simp, rfl, rfl, P.ints_bor _ _, rfl, rfl⟩
theorem IsL.at {s : S} {o : P} {xs : List Int} (h : IsL s o xs) {i : Int} {j : Nat} (hi : i = (j : Int)) (hj : j < xs.length) : kIx o (.fz (.int i)) = some (.int (bI xs j)) := kIx_ok h.seq hi (get_bI hj)
def nil : Cov := ⟨0, true, 1, 0, []⟩
def Tab.row (t : Tab) (i : Nat) : Cov := t.rows.getD i nil
theorem Tab.row_mem {t : Tab} {i : Nat} (h : i < t.rows.length) : t.row i ∈ t.rows := by
  unfold Tab.row; rw [List.getD_eq_getElem?_getD, List.getElem?_eq_getElem h]; exact List.getElem_mem h
theorem Tab.row_get {t : Tab} {i : Nat} (h : i < t.rows.length) : t.rows[i]? = some (t.row i) := by
  unfold Tab.row; rw [List.getD_eq_getElem?_getD, List.getElem?_eq_getElem h]; rfl
/-- an account within the mosts -/
structure Tab.Acc (t : Tab) (xs : List Int) : Prop where
  len : xs.length = t.rows.length
  ok : ∀ i, i < t.rows.length → 0 ≤ bI xs i ∧ bI xs i ≤ (t.row i).most
theorem look_account_eq {t : Tab} (h : t.Ok) {xs : List Int} (ha : t.Acc xs) {s1 : S} {o : P} (hl : IsL s1 o xs) : f_look_account [.fz t.d, s1] = .ok (.fz .non) none := by
  have hfew := h.few
  have hm := mosts_eq hfew
  obtain ⟨e', h1, s3, f3, he⟩ := forD_inv (g := gN 3) (b := m_look_account_l1) (ds := rngD 0 t.rows.length) (env := [.fz t.d, s1, .fz (.lst ((t.rows.map Cov.most).map D.int)), .un])
    (fun i e => ∃ s3, S.free s3 = true ∧ e = [.fz t.d, s1, .fz (.lst ((t.rows.map Cov.most).map D.int)), s3]) ⟨.un, rfl, rfl⟩ (fun i d e hd ⟨s3, f3, he⟩ => by
      obtain ⟨hi, rfl⟩ := rngD_at hd
      subst he
      rw [Int.zero_add]
      have b := ha.ok i hi
      have i1 := hl.at (i := (i : Int)) rfl (by rw [ha.len]; exact hi)
      have i2 : kIx (.fz (.lst ((t.rows.map Cov.most).map D.int))) (.fz (.int (i : Int))) = some (.int (t.row i).most) := kIx_ok rfl rfl (map_get (map_get (Tab.row_get hi)))
      have c1 : ¬ bI xs i < 0 := by omega
      have c2 : ¬ (t.row i).most < bI xs i := by omega
      have hv := hl.v 1
      exact ⟨[.fz t.d, s1, .fz (.lst ((t.rows.map Cov.most).map D.int)), .fz (.int (i : Int))], [.fz t.d, s1, .fz (.lst ((t.rows.map Cov.most).map D.int)), .fz (.int (i : Int))], by simp [f3], .inl (by
        generalize ((t.rows.map Cov.most).map D.int) = zs at *
        simp [m_look_account_l1, hv, i1, i2, c1, c2]), _, rfl, rfl⟩)
  subst he
  refine runF_nx rfl (by decide) (e := [.fz t.d, s1, .fz (.lst ((t.rows.map Cov.most).map D.int)), s3]) ?_
  have hv := hl.v 1
  have hk := hl.len
  have hk2 : kLen [.fz (.lst ((t.rows.map Cov.most).map D.int))] = some (t.rows.length : Int) := by simp
  have kr : kRng1 [.fz (.int (t.rows.length : Int))] = some (0, t.rows.length) := kRng1_nat (by omega)
  rw [ha.len] at hk
  show m_look_account [.fz t.d, s1, .un, .un] = _
  generalize ((t.rows.map Cov.most).map D.int) = zs at *
  simp [m_look_account, isO_mosts, hm, hv, hk, hk2, kr, h1]
/-- the crowns of one bill added to what befell the houses -/
def hAt (ls : Ln) (k : Nat) : Nat := ((ls.getD k (0, 0)).1).toNat
def addP (ls : Ln) (bs f : List Int) : Nat → List Int
  | 0 => f
  | k + 1 => (addP ls bs f k).set (hAt ls k) (bI (addP ls bs f k) (hAt ls k) + bI bs k)
theorem addP_len (ls : Ln) (bs f : List Int) : ∀ k, (addP ls bs f k).length = f.length
  | 0 => rfl
  | k + 1 => by show ((addP ls bs f k).set _ _).length = _; rw [List.length_set, addP_len ls bs f k]
def Cov.part (c : Cov) (n : Int) : List Int := dealt c.lines n.toNat
def Tab.loadsTo (t : Tab) (xs f : List Int) : Nat → List Int
  | 0 => f
  | k + 1 => addP (t.row k).lines ((t.row k).part (bI xs k)) (t.loadsTo xs f k) (t.row k).lines.length
theorem Tab.loadsTo_len (t : Tab) (xs f : List Int) : ∀ k, (t.loadsTo xs f k).length = f.length
  | 0 => rfl
  | k + 1 => by
    show (addP _ _ _ _).length = _
    rw [addP_len, Tab.loadsTo_len t xs f k]
def Tab.loads (t : Tab) (xs : List Int) : List Int := t.loadsTo xs t.befell t.rows.length
theorem Tab.loads_len (t : Tab) (xs : List Int) : (t.loads xs).length = t.befell.length := t.loadsTo_len _ _ _
theorem Cov.part_len (c : Cov) (n : Int) : (c.part n).length = c.lines.length := dealt_len _ _
theorem house_at {c : Cov} {n k : Nat} (h : c.Ok n) (hk : k < c.lines.length) : (c.lines.getD k (0, 0)).1 = (hAt c.lines k : Int) ∧ hAt c.lines k < n := by
  have hm : c.lines.getD k (0, 0) ∈ c.lines := by rw [List.getD_eq_getElem?_getD, List.getElem?_eq_getElem hk]; exact List.getElem_mem hk
  have := h.others _ hm
  unfold hAt
  omega
theorem split_at {t : Tab} (h : t.Ok) {xs : List Int} (ha : t.Acc xs) {i : Nat} (hi : i < t.rows.length) : kIx (.fz (t.row i).split) (.fz (.int (bI xs i))) = some (.lst (((t.row i).part (bI xs i)).map D.int)) := by
  have b := ha.ok i hi
  refine kIx_ok (ds := (rowsOf (t.row i).lines (t.row i).most.toNat).map intsD) (j := (bI xs i).toNat) rfl (by omega) ?_
  exact map_get (rowsOf_get _ (by omega))
theorem tloads_l1 {t : Tab} (h : t.Ok) {i k : Nat} (hi : i < t.rows.length) (hk : k < (t.row i).lines.length) {bs f : List Int} (hb : bs.length = (t.row i).lines.length) (hf : f.length = t.size) {s0 s1 s3 : S} :
    m_Table_loads_l1 [s0, s1, .ow (.lst ((addP (t.row i).lines bs f k).map D.int)), s3, .fz (.lst (bs.map D.int)), .fz (linesD (t.row i).lines), .fz (.int (k : Int))] =
      .nx [s0, s1, .ow (.lst ((addP (t.row i).lines bs f (k + 1)).map D.int)), s3, .fz (.lst (bs.map D.int)), .fz (linesD (t.row i).lines), .fz (.int (k : Int))] := by
  obtain ⟨h1, h2⟩ := house_at (h.rows _ (Tab.row_mem hi)) hk
  have i3 : kIx (.fz (linesD (t.row i).lines)) (.fz (.int (k : Int))) = some (.tup [.int (hAt (t.row i).lines k : Int), .int (lW (t.row i).lines k)]) := by rw [← h1]; exact kIx_ok rfl rfl (get_pair hk)
  have i2 : kIx (.fz (.lst (bs.map D.int))) (.fz (.int (k : Int))) = some (.int (bI bs k)) := kIx_ints rfl (by omega)
  have au : augAt ((addP (t.row i).lines bs f k).map D.int) (.fz (.int (hAt (t.row i).lines k : Int))) = some (hAt (t.row i).lines k, bI (addP (t.row i).lines bs f k) (hAt (t.row i).lines k)) := augAt_at rfl (get_bI (by rw [addP_len]; omega))
  have nx : ((addP (t.row i).lines bs f k).map D.int).set (hAt (t.row i).lines k) (.int (bI (addP (t.row i).lines bs f k) (hAt (t.row i).lines k) + bI bs k)) = (addP (t.row i).lines bs f (k + 1)).map D.int := by
    show _ = ((addP (t.row i).lines bs f k).set _ _).map D.int
    rw [List.map_set]
  generalize (addP (t.row i).lines bs f (k + 1)).map D.int = z1 at *
  generalize (addP (t.row i).lines bs f k).map D.int = z0 at *
  simp [m_Table_loads_l1, i3, i2, au, nx]
theorem tloads_eq {t : Tab} (h : t.Ok) {xs : List Int} (ha : t.Acc xs) {s1 : S} {o : P} (hl : IsL s1 o xs) : f_Table_loads [.fz t.d, s1] = .ok (.tmp (.lst ((t.loads xs).map D.int))) none := by
  have hfew := h.few
  have hlen := h.len
  have hv := hl.v 1
  obtain ⟨e', h1, s3, s4, s5, s6, f3, f4, f5, f6, he⟩ := forD_inv (g := gN 3) (b := m_Table_loads_l2) (ds := rngD 0 t.rows.length) (env := [.fz t.d, s1, .ow (.lst (t.befell.map D.int)), .un, .un, .un, .un])
    (fun i e => ∃ s3 s4 s5 s6, S.free s3 = true ∧ S.free s4 = true ∧ S.free s5 = true ∧ S.free s6 = true ∧ e = [.fz t.d, s1, .ow (.lst ((t.loadsTo xs t.befell i).map D.int)), s3, s4, s5, s6]) ⟨.un, .un, .un, .un, rfl, rfl, rfl, rfl, rfl⟩ (fun i d e hd ⟨s3, s4, s5, s6, f3, f4, f5, f6, he⟩ => by
      obtain ⟨hi, rfl⟩ := rngD_at hd
      subst he
      rw [Int.zero_add]
      have i1 := hl.at (i := (i : Int)) rfl (by rw [ha.len]; exact hi)
      have i2 : kIx (.fz (.lst (t.rows.map Cov.split))) (.fz (.int (i : Int))) = some (t.row i).split := kIx_ok rfl rfl (map_get (Tab.row_get hi))
      have i3 : kIx (.fz (.lst (t.rows.map Cov.d))) (.fz (.int (i : Int))) = some (t.row i).d := kIx_ok rfl rfl (map_get (Tab.row_get hi))
      have i4 : kIx (.fz (t.row i).d) (.fz (.int 4)) = some (linesD (t.row i).lines) := kIx_ok (j := 4) rfl rfl rfl
      have i5 := split_at h ha hi
      have hf4 := (h.rows _ (Tab.row_mem hi)).lines.good.few
      have kr : kRng1 [.fz (.int ((t.row i).lines.length : Int))] = some (0, (t.row i).lines.length) := kRng1_nat (by omega)
      have kl := kLen_lines (t.row i).lines
      obtain ⟨e2, g1, s6', g2, g3⟩ := forD_inv (g := gN 6) (b := m_Table_loads_l1) (ds := rngD 0 (t.row i).lines.length)
        (env := [.fz t.d, s1, .ow (.lst ((t.loadsTo xs t.befell i).map D.int)), .fz (.int (i : Int)), .fz (.lst (((t.row i).part (bI xs i)).map D.int)), .fz (linesD (t.row i).lines), s6])
        (fun k e => ∃ s6, S.free s6 = true ∧ e = [.fz t.d, s1, .ow (.lst ((addP (t.row i).lines ((t.row i).part (bI xs i)) (t.loadsTo xs t.befell i) k).map D.int)), .fz (.int (i : Int)), .fz (.lst (((t.row i).part (bI xs i)).map D.int)), .fz (linesD (t.row i).lines), s6]) ⟨s6, f6, rfl⟩ (fun k d e hd ⟨s6, f6, he⟩ => by
          obtain ⟨hk, rfl⟩ := rngD_at hd
          subst he
          rw [Int.zero_add]
          exact ⟨_, _, by simp only [gN_eq, setP_fz, free?_eq, List.getElem?_cons_succ, List.getElem?_cons_zero, freeK_some, f6, if_true]; rfl, .inl (tloads_l1 h hi hk (Cov.part_len _ _) (by rw [Tab.loadsTo_len]; exact hlen)), _, rfl, rfl⟩)
      rw [g3, rngD_len] at g1
      refine ⟨[.fz t.d, s1, .ow (.lst ((t.loadsTo xs t.befell i).map D.int)), .fz (.int (i : Int)), s4, s5, s6], _, by simp [f3], .inl ?_, .fz (.int (i : Int)), .fz (.lst (((t.row i).part (bI xs i)).map D.int)), .fz (linesD (t.row i).lines), s6', rfl, rfl, rfl, g2, rfl⟩
      simp only [m_Table_loads_l2]
      show _ = Fl.nx [.fz t.d, s1, .ow (.lst ((addP (t.row i).lines ((t.row i).part (bI xs i)) (t.loadsTo xs t.befell i) (t.row i).lines.length).map D.int)), .fz (.int (i : Int)), .fz (.lst (((t.row i).part (bI xs i)).map D.int)), .fz (linesD (t.row i).lines), s6']
      generalize hz : (addP (t.row i).lines ((t.row i).part (bI xs i)) (t.loadsTo xs t.befell i) (t.row i).lines.length).map D.int = zz at *
      generalize hzz : (t.loadsTo xs t.befell i).map D.int = z0 at *
      generalize (((t.row i).part (bI xs i)).map D.int) = z3 at *
      simp [hv, f4, f5, i1, i2, i3, i4, i5, kr, kl, g1])
  rw [rngD_len] at he
  subst he
  refine runF_rt rfl (by decide) (e := [.fz t.d, s1, .ow (.lst ((t.loads xs).map D.int)), s3, s4, s5, s6]) ?_ (fun l o z => by cases z)
  have kr : kRng1 [.fz (.int (t.rows.length : Int))] = some (0, t.rows.length) := kRng1_nat (by omega)
  have z2 : kListc [.fz (intsD t.befell)] = some (t.befell.map D.int) := rfl
  have kl : kLen [.fz (.lst (t.rows.map Cov.d))] = some (t.rows.length : Int) := by simp
  show m_Table_loads [.fz t.d, s1, .un, .un, .un, .un, .un] = _
  have h1 : _ = Fl.nx [.fz t.d, s1, .ow (.lst ((t.loads xs).map D.int)), s3, s4, s5, s6] := h1
  generalize (t.loads xs).map D.int = zz at *
  generalize t.rows.map Cov.d = zr at *
  simp [m_Table_loads, z2, kl, kr, h1]
/-- what is asked by the covers one behind another, and what is left to the houses -/
def Tab.passTo (t : Tab) (xs : List Int) : Nat → List Int × List Int
  | 0 => ([], t.loads xs)
  | k + 1 => ((t.passTo xs k).1 ++ [tk (t.row k).share (t.row k).by_ (t.row k).most (bI (t.passTo xs k).2 (t.row k).house.toNat)],
      (t.passTo xs k).2.set (t.row k).house.toNat (bI (t.passTo xs k).2 (t.row k).house.toNat - tk (t.row k).share (t.row k).by_ (t.row k).most (bI (t.passTo xs k).2 (t.row k).house.toNat)))
def Tab.asks (t : Tab) (xs : List Int) : List Int := (t.passTo xs t.rows.length).1
def Tab.left (t : Tab) (xs : List Int) : List Int := (t.passTo xs t.rows.length).2
theorem Tab.passTo_len (t : Tab) (xs : List Int) : ∀ k, (t.passTo xs k).1.length = k ∧ (t.passTo xs k).2.length = t.befell.length
  | 0 => ⟨rfl, t.loads_len xs⟩
  | k + 1 => by
    obtain ⟨h1, h2⟩ := t.passTo_len xs k
    exact ⟨by show (_ ++ [_]).length = _; rw [List.length_append, h1]; rfl, by show (List.set _ _ _).length = _; rw [List.length_set, h2]⟩
theorem Tab.row_at {t : Tab} {i : Nat} {d : D} (h : (t.rows.map Cov.d)[i]? = some d) : i < t.rows.length ∧ d = (t.row i).d := by
  have hi : i < t.rows.length := by have := (List.getElem?_eq_some_iff.mp h).1; simpa using this
  rw [map_get (Tab.row_get hi)] at h
  exact ⟨hi, (Option.some.inj h).symm⟩
theorem house_nat {c : Cov} {n : Nat} (h : c.Ok n) : c.house = (c.house.toNat : Int) ∧ c.house.toNat < n := by have := h.house; omega
theorem tpassed_eq {t : Tab} (h : t.Ok) {xs : List Int} (ha : t.Acc xs) {s1 : S} {o : P} (hl : IsL s1 o xs) : f_Table_passed [.fz t.d, s1] = .ok (.fz (.tup [.lst ((t.asks xs).map D.int), .lst ((t.left xs).map D.int)])) none := by
  have hfew := h.few
  have hv := hl.v 1
  have hs := hl.sl
  have b := tloads_eq h ha hl
  obtain ⟨e', h1, s4, s5, s6, s7, s8, s9, ff, he⟩ := forD_inv (g := (gT (gsCons (gN 4) (gsCons (gN 5) (gsCons (gN 6) (gsCons (gN 7) (gsCons (gN 8) gsNil))))) 5)) (b := m_Table_passed_l1) (ds := t.rows.map Cov.d) (env := [.fz t.d, s1, .ow (.lst ((t.loads xs).map D.int)), .ow (.lst []), .un, .un, .un, .un, .un, .un])
    (fun i e => ∃ s4 s5 s6 s7 s8 s9, (S.free s4 = true ∧ S.free s5 = true ∧ S.free s6 = true ∧ S.free s7 = true ∧ S.free s8 = true ∧ S.free s9 = true) ∧ e = [.fz t.d, s1, .ow (.lst ((t.passTo xs i).2.map D.int)), .ow (.lst ((t.passTo xs i).1.map D.int)), s4, s5, s6, s7, s8, s9])
    ⟨.un, .un, .un, .un, .un, .un, ⟨rfl, rfl, rfl, rfl, rfl, rfl⟩, rfl⟩ (fun i d e hd ⟨s4, s5, s6, s7, s8, s9, ⟨f4, f5, f6, f7, f8, f9⟩, he⟩ => by
      obtain ⟨hi, rfl⟩ := Tab.row_at hd
      subst he
      have ho := h.rows _ (Tab.row_mem hi)
      obtain ⟨p1, p2⟩ := t.passTo_len xs i
      obtain ⟨n1, n2⟩ := house_nat ho
      have hlen := h.len
      have i1 : kIx (.bor (.slot 2) (.lst ((t.passTo xs i).2.map D.int))) (.fz (.int (t.row i).house)) = some (.int (bI (t.passTo xs i).2 (t.row i).house.toNat)) := kIx_ok rfl n1 (get_bI (by omega))
      have tkn := taken_eq (most := (t.row i).most) (reach := bI (t.passTo xs i).2 (t.row i).house.toNat) ho.by_
      have au : augAt ((t.passTo xs i).2.map D.int) (.fz (.int (t.row i).house)) = some ((t.row i).house.toNat, bI (t.passTo xs i).2 (t.row i).house.toNat) := augAt_at n1 (get_bI (by omega))
      have e1 : (t.passTo xs (i + 1)).1 = (t.passTo xs i).1 ++ [tk (t.row i).share (t.row i).by_ (t.row i).most (bI (t.passTo xs i).2 (t.row i).house.toNat)] := rfl
      have e2 : ((t.passTo xs (i + 1)).2.map D.int) = ((t.passTo xs i).2.map D.int).set (t.row i).house.toNat (.int (bI (t.passTo xs i).2 (t.row i).house.toNat - tk (t.row i).share (t.row i).by_ (t.row i).most (bI (t.passTo xs i).2 (t.row i).house.toNat))) := by
        show (List.set _ _ _).map D.int = _
        rw [List.map_set]
      have hl2 : ((t.passTo xs i).1.map D.int).length < 16777216 := by rw [List.length_map]; omega
      generalize hq : tk (t.row i).share (t.row i).by_ (t.row i).most (bI (t.passTo xs i).2 (t.row i).house.toNat) = q at *
      refine ⟨[.fz t.d, s1, .ow (.lst ((t.passTo xs i).2.map D.int)), .ow (.lst ((t.passTo xs i).1.map D.int)), .fz (.int (t.row i).house), .fz (kindD (t.row i).share), .fz (.int (t.row i).by_), .fz (.int (t.row i).most), .fz (linesD (t.row i).lines), s9],
        [.fz t.d, s1, .ow (.lst ((t.passTo xs (i + 1)).2.map D.int)), .ow (.lst ((t.passTo xs (i + 1)).1.map D.int)), .fz (.int (t.row i).house), .fz (kindD (t.row i).share), .fz (.int (t.row i).by_), .fz (.int (t.row i).most), .fz (linesD (t.row i).lines), .fz (.int q)], ?_, .inl ?_, _, _, _, _, _, _, ⟨rfl, rfl, rfl, rfl, rfl, rfl⟩, rfl⟩
      · simp [Cov.d, f4, f5, f6, f7, f8]
      · rw [e2, e1, List.map_append, List.map_cons, List.map_nil]
        generalize ((t.passTo xs i).2.map D.int) = z2 at *
        generalize ((t.passTo xs i).1.map D.int) = z1 at *
        generalize kindD (t.row i).share = kd at *
        simp [m_Table_passed_l1, f9, i1, tkn, au, hl2])
  rw [List.length_map] at he
  subst he
  refine runF_rt rfl (by decide) (e := [.fz t.d, s1, .fz (.lst ((t.left xs).map D.int)), .fz (.lst ((t.asks xs).map D.int)), s4, s5, s6, s7, s8, s9]) ?_ (fun l o z => by cases z)
  have h1 : _ = Fl.nx [.fz t.d, s1, .ow (.lst ((t.left xs).map D.int)), .ow (.lst ((t.asks xs).map D.int)), s4, s5, s6, s7, s8, s9] := h1
  show m_Table_passed [.fz t.d, s1, .un, .un, .un, .un, .un, .un, .un, .un] = _
  generalize (t.loads xs).map D.int = z0 at *
  generalize (t.left xs).map D.int = z1 at *
  generalize (t.asks xs).map D.int = z2 at *
  have r := att_rows t
  generalize t.rows.map Cov.d = zr at *
  simp [m_Table_passed, hv, hs, isO_loads, b, r, h1]
theorem asked_eq {t : Tab} (h : t.Ok) {xs : List Int} (ha : t.Acc xs) {s1 : S} {o : P} (hl : IsL s1 o xs) : f_asked [.fz t.d, s1] = .ok (.fz (.lst ((t.asks xs).map D.int))) none := by
  have a := look_account_eq h ha hl
  have b := tpassed_eq h ha hl
  have hv := hl.v 1
  have hs := hl.sl
  refine runF_rt rfl (by decide) (e := [.fz t.d, s1]) ?_ (fun l o z => by cases z)
  show m_asked [.fz t.d, s1] = _
  generalize (t.left xs).map D.int = z1 at *
  generalize (t.asks xs).map D.int = z2 at *
  simp [m_asked, hv, hs, a, isO_passed, b]
theorem lawsplits_eq {t : Tab} (h : t.Ok) : f_law_splits [.fz (.lst (t.rows.map Cov.d))] = .ok (.tmp (.lst (t.rows.map Cov.split))) none := by
  refine runF_rt rfl (by decide) (e := [.fz (.lst (t.rows.map Cov.d)), .un]) ?_ (fun l o z => by cases z)
  have hfew := h.few
  have c : mComp 1 tYesB (mOp (mCall f_law_split (mCons (mIx (mVar 1) (mC (.int 4))) (mCons (mIx (mVar 1) (mC (.int 3))) mNil)))) (t.rows.map Cov.d) [.fz (.lst (t.rows.map Cov.d)), .un] = .ok (.tmp (.lst (t.rows.map Cov.split))) := by
    refine mComp_map Cov.d _ rfl (by simp) (by omega) fun c hc => ?_
    have ho := h.rows c hc
    have hm := ho.most
    have x3 : kIx (.fz c.d) (.fz (.int 3)) = some (.int c.most) := kIx_ok (j := 3) rfl rfl rfl
    have x4 : kIx (.fz c.d) (.fz (.int 4)) = some (linesD c.lines) := kIx_ok (j := 4) rfl rfl rfl
    have e : c.most = ((c.most.toNat : Nat) : Int) := by omega
    have gp := split_eq ho.lines.good (n := c.most.toNat) (by omega)
    rw [← e] at gp
    simp [x3, x4, gp, Cov.split]
  show m_law_splits [.fz (.lst (t.rows.map Cov.d)), .un] = _
  generalize t.rows.map Cov.d = zr at *
  simp [m_law_splits, c]
theorem lawloads_l1 {t : Tab} (h : t.Ok) {i k : Nat} (hi : i < t.rows.length) (hk : k < (t.row i).lines.length) {bs f : List Int} (hb : bs.length = (t.row i).lines.length) (hf : f.length = t.size) {s0 s1 s2 s3 s5 s9 : S} (f9 : s9.free = true) :
    ∃ s9', S.free s9' = true ∧ m_law_loads_l1 [s0, s1, s2, s3, .ow (.lst ((addP (t.row i).lines bs f k).map D.int)), s5, .fz (linesD (t.row i).lines), .fz (.lst (bs.map D.int)), .fz (.int (k : Int)), s9] =
      .nx [s0, s1, s2, s3, .ow (.lst ((addP (t.row i).lines bs f (k + 1)).map D.int)), s5, .fz (linesD (t.row i).lines), .fz (.lst (bs.map D.int)), .fz (.int (k : Int)), s9'] := by
  obtain ⟨h1, h2⟩ := house_at (h.rows _ (Tab.row_mem hi)) hk
  have i3 : kIx (.fz (linesD (t.row i).lines)) (.fz (.int (k : Int))) = some (.tup [.int (hAt (t.row i).lines k : Int), .int (lW (t.row i).lines k)]) := by rw [← h1]; exact kIx_ok rfl rfl (get_pair hk)
  have i2 : kIx (.fz (.lst (bs.map D.int))) (.fz (.int (k : Int))) = some (.int (bI bs k)) := kIx_ints rfl (by omega)
  have i1 : kIx (.bor (.slot 4) (.lst ((addP (t.row i).lines bs f k).map D.int))) (.fz (.int (hAt (t.row i).lines k : Int))) = some (.int (bI (addP (t.row i).lines bs f k) (hAt (t.row i).lines k))) := kIx_ok rfl rfl (get_bI (by rw [addP_len]; omega))
  have sd : setD ((addP (t.row i).lines bs f k).map D.int) (hAt (t.row i).lines k : Int) (.int (bI (addP (t.row i).lines bs f k) (hAt (t.row i).lines k) + bI bs k)) = some ((addP (t.row i).lines bs f (k + 1)).map D.int) := by
    rw [setD_ok rfl (by rw [List.length_map, addP_len]; omega)]
    show _ = some (((addP (t.row i).lines bs f k).set _ _).map D.int)
    rw [List.map_set]
  refine ⟨.fz (.int (hAt (t.row i).lines k : Int)), rfl, ?_⟩
  generalize (addP (t.row i).lines bs f (k + 1)).map D.int = z1 at *
  generalize (addP (t.row i).lines bs f k).map D.int = z0 at *
  simp [m_law_loads_l1, f9, i1, i3, i2, sd]
theorem lawloads_eq {t : Tab} (h : t.Ok) {xs : List Int} (ha : t.Acc xs) : f_law_loads [.fz (.lst (t.rows.map Cov.d)), .fz (intsD t.befell), .fz (.lst (t.rows.map Cov.split)), .fz (.lst (xs.map D.int))] = .ok (.tmp (.lst ((t.loads xs).map D.int))) none := by
  have hfew := h.few
  have hlen := h.len
  generalize hS0 : S.fz (.lst (t.rows.map Cov.d)) = S0
  have v0 : varK 0 (some S0) = .ok (.fz (.lst (t.rows.map Cov.d))) := by rw [← hS0]; rfl
  generalize hS2 : S.fz (.lst (t.rows.map Cov.split)) = S2
  have v2 : varK 2 (some S2) = .ok (.fz (.lst (t.rows.map Cov.split))) := by rw [← hS2]; rfl
  generalize hS3 : S.fz (.lst (xs.map D.int)) = S3
  have v3 : varK 3 (some S3) = .ok (.fz (.lst (xs.map D.int))) := by rw [← hS3]; rfl
  obtain ⟨e', h1, s5, s6, s7, s8, s9, f5, f6, f7, f8, f9, he⟩ := forD_inv (g := gN 5) (b := m_law_loads_l2) (ds := rngD 0 t.rows.length) (env := [S0, .fz (intsD t.befell), S2, S3, .ow (.lst (t.befell.map D.int)), .un, .un, .un, .un, .un])
    (fun i e => ∃ s5 s6 s7 s8 s9, S.free s5 = true ∧ S.free s6 = true ∧ S.free s7 = true ∧ S.free s8 = true ∧ S.free s9 = true ∧ e = [S0, .fz (intsD t.befell), S2, S3, .ow (.lst ((t.loadsTo xs t.befell i).map D.int)), s5, s6, s7, s8, s9]) ⟨.un, .un, .un, .un, .un, rfl, rfl, rfl, rfl, rfl, rfl⟩ (fun i d e hd ⟨s5, s6, s7, s8, s9, f5, f6, f7, f8, f9, he⟩ => by
      obtain ⟨hi, rfl⟩ := rngD_at hd
      subst he
      rw [Int.zero_add]
      have i1 : kIx (.fz (.lst (xs.map D.int))) (.fz (.int (i : Int))) = some (.int (bI xs i)) := kIx_ints rfl (by rw [ha.len]; exact hi)
      have i2 : kIx (.fz (.lst (t.rows.map Cov.split))) (.fz (.int (i : Int))) = some (t.row i).split := kIx_ok rfl rfl (map_get (Tab.row_get hi))
      have i3 : kIx (.fz (.lst (t.rows.map Cov.d))) (.fz (.int (i : Int))) = some (t.row i).d := kIx_ok rfl rfl (map_get (Tab.row_get hi))
      have i4 : kIx (.fz (t.row i).d) (.fz (.int 4)) = some (linesD (t.row i).lines) := kIx_ok (j := 4) rfl rfl rfl
      have i5 := split_at h ha hi
      have hf4 := (h.rows _ (Tab.row_mem hi)).lines.good.few
      have kr : kRng1 [.fz (.int ((t.row i).lines.length : Int))] = some (0, (t.row i).lines.length) := kRng1_nat (by omega)
      have kl := kLen_lines (t.row i).lines
      obtain ⟨e2, g1, s8', s9', g2, g2', g3⟩ := forD_inv (g := gN 8) (b := m_law_loads_l1) (ds := rngD 0 (t.row i).lines.length)
        (env := [S0, .fz (intsD t.befell), S2, S3, .ow (.lst ((t.loadsTo xs t.befell i).map D.int)), .fz (.int (i : Int)), .fz (linesD (t.row i).lines), .fz (.lst (((t.row i).part (bI xs i)).map D.int)), s8, s9])
        (fun k e => ∃ s8 s9, S.free s8 = true ∧ S.free s9 = true ∧ e = [S0, .fz (intsD t.befell), S2, S3, .ow (.lst ((addP (t.row i).lines ((t.row i).part (bI xs i)) (t.loadsTo xs t.befell i) k).map D.int)), .fz (.int (i : Int)), .fz (linesD (t.row i).lines), .fz (.lst (((t.row i).part (bI xs i)).map D.int)), s8, s9]) ⟨s8, s9, f8, f9, rfl⟩ (fun k d e hd ⟨s8, s9, f8, f9, he⟩ => by
          obtain ⟨hk, rfl⟩ := rngD_at hd
          subst he
          rw [Int.zero_add]
          obtain ⟨s9', w1, w2⟩ := lawloads_l1 (s0 := S0) (s1 := .fz (intsD t.befell)) (s2 := S2) (s3 := S3) (s5 := .fz (.int (i : Int))) h hi hk (Cov.part_len _ _) (show (t.loadsTo xs t.befell i).length = t.size by rw [Tab.loadsTo_len]; exact hlen) f9
          exact ⟨_, _, by simp only [gN_eq, setP_fz, free?_eq, List.getElem?_cons_succ, List.getElem?_cons_zero, freeK_some, f8, if_true]; rfl, .inl w2, .fz (.int (k : Int)), s9', rfl, w1, rfl⟩)
      rw [g3, rngD_len] at g1
      refine ⟨[S0, .fz (intsD t.befell), S2, S3, .ow (.lst ((t.loadsTo xs t.befell i).map D.int)), .fz (.int (i : Int)), s6, s7, s8, s9], _, by simp [f5], .inl ?_, .fz (.int (i : Int)), .fz (linesD (t.row i).lines), .fz (.lst (((t.row i).part (bI xs i)).map D.int)), s8', s9', rfl, rfl, rfl, g2, g2', rfl⟩
      simp only [m_law_loads_l2]
      show _ = Fl.nx [S0, .fz (intsD t.befell), S2, S3, .ow (.lst ((addP (t.row i).lines ((t.row i).part (bI xs i)) (t.loadsTo xs t.befell i) (t.row i).lines.length).map D.int)), .fz (.int (i : Int)), .fz (linesD (t.row i).lines), .fz (.lst (((t.row i).part (bI xs i)).map D.int)), s8', s9']
      generalize hz : (addP (t.row i).lines ((t.row i).part (bI xs i)) (t.loadsTo xs t.befell i) (t.row i).lines.length).map D.int = zz at *
      generalize hzz : (t.loadsTo xs t.befell i).map D.int = z0 at *
      generalize (((t.row i).part (bI xs i)).map D.int) = z3 at *
      generalize t.rows.map Cov.d = zr at *
      generalize t.rows.map Cov.split = zs at *
      simp [v0, v2, v3, f6, f7, i1, i2, i3, i4, i5, kr, kl, g1])
  rw [rngD_len] at he
  subst he
  have o0 : outOf [S0, .fz (intsD t.befell), S2, S3, .ow (.lst ((t.loads xs).map D.int)), s5, s6, s7, s8, s9] = none := by rw [← hS0]; rfl
  rw [← o0]
  refine runF_rt rfl (by decide) (e := [S0, .fz (intsD t.befell), S2, S3, .ow (.lst ((t.loads xs).map D.int)), s5, s6, s7, s8, s9]) ?_ (fun l o z => by cases z)
  have kr : kRng1 [.fz (.int (t.rows.length : Int))] = some (0, t.rows.length) := kRng1_nat (by omega)
  have z2 : kListc [.fz (intsD t.befell)] = some (t.befell.map D.int) := rfl
  have kl : kLen [.fz (.lst (t.rows.map Cov.d))] = some (t.rows.length : Int) := by simp
  show m_law_loads [S0, .fz (intsD t.befell), S2, S3, .un, .un, .un, .un, .un, .un] = _
  have h1 : _ = Fl.nx [S0, .fz (intsD t.befell), S2, S3, .ow (.lst ((t.loads xs).map D.int)), s5, s6, s7, s8, s9] := h1
  generalize (t.loads xs).map D.int = zz at *
  generalize t.rows.map Cov.d = zr at *
  simp [m_law_loads, v0, z2, kl, kr, h1]
theorem lawtake_eq {share : Bool} {b most reach : Int} (h : ByOk share b) (hm : 0 ≤ most) : f_law_take [.fz (kindD share), .fz (.int b), .fz (.int most), .fz (.int reach)] = .ok (.fz (.int (tk share b most reach))) none := by
  refine runF_rt rfl (by decide) (e := [.fz (kindD share), .fz (.int b), .fz (.int most), .fz (.int reach)]) ?_ (fun l o z => by cases z)
  show m_law_take [.fz (kindD share), .fz (.int b), .fz (.int most), .fz (.int reach)] = _
  cases share with
  | true =>
    have := h.sh rfl
    have k1 : iMul reach b = some (reach * b) := iMul_r (by omega) (by omega)
    have k2 : ∀ x, iDiv x 100 = some (x / 100) := fun x => iDiv_pos (by omega) (by omega)
    simp [m_law_take, kEq_ss, k1, k2, kMin2_i, tk_share]
  | false =>
    by_cases c : reach ≤ b
    · have e : tk false b most reach = 0 := by rw [tk_layer, if_neg (show ¬ (reach - b > 0) by omega)]; split <;> omega
      rw [e]
      simp [m_law_take, kEq_ls, c]
    · have e : tk false b most reach = if reach - b < most then reach - b else most := by rw [tk_layer, if_pos (show reach - b > 0 by omega)]
      rw [e]
      simp [m_law_take, kEq_ls, c, kMin2_i]
theorem lawpassed_eq {t : Tab} (h : t.Ok) {xs : List Int} (ha : t.Acc xs) : f_law_passed [.fz (.lst (t.rows.map Cov.d)), .fz (intsD t.befell), .fz (.lst (t.rows.map Cov.split)), .fz (.lst (xs.map D.int))] = .ok (.fz (.tup [.lst ((t.asks xs).map D.int), .lst ((t.left xs).map D.int)])) none := by
  have hfew := h.few
  have b := lawloads_eq h ha
  obtain ⟨e', h1, s6, s7, s8, s9, s10, s11, ff, he⟩ := forD_inv (g := (gT (gsCons (gN 6) (gsCons (gN 7) (gsCons (gN 8) (gsCons (gN 9) (gsCons (gN 10) gsNil))))) 5)) (b := m_law_passed_l1) (ds := t.rows.map Cov.d) (env := [.fz (.lst (t.rows.map Cov.d)), .fz (intsD t.befell), .fz (.lst (t.rows.map Cov.split)), .fz (.lst (xs.map D.int)), .ow (.lst ((t.loads xs).map D.int)), .ow (.lst []), .un, .un, .un, .un, .un, .un])
    (fun i e => ∃ s4 s5 s6 s7 s8 s9, (S.free s4 = true ∧ S.free s5 = true ∧ S.free s6 = true ∧ S.free s7 = true ∧ S.free s8 = true ∧ S.free s9 = true) ∧ e = [.fz (.lst (t.rows.map Cov.d)), .fz (intsD t.befell), .fz (.lst (t.rows.map Cov.split)), .fz (.lst (xs.map D.int)), .ow (.lst ((t.passTo xs i).2.map D.int)), .ow (.lst ((t.passTo xs i).1.map D.int)), s4, s5, s6, s7, s8, s9])
    ⟨.un, .un, .un, .un, .un, .un, ⟨rfl, rfl, rfl, rfl, rfl, rfl⟩, rfl⟩ (fun i d e hd ⟨s4, s5, s6, s7, s8, s9, ⟨f4, f5, f6, f7, f8, f9⟩, he⟩ => by
      obtain ⟨hi, rfl⟩ := Tab.row_at hd
      subst he
      have ho := h.rows _ (Tab.row_mem hi)
      obtain ⟨p1, p2⟩ := t.passTo_len xs i
      obtain ⟨n1, n2⟩ := house_nat ho
      have hlen := h.len
      have i1 : kIx (.bor (.slot 4) (.lst ((t.passTo xs i).2.map D.int))) (.fz (.int (t.row i).house)) = some (.int (bI (t.passTo xs i).2 (t.row i).house.toNat)) := kIx_ok rfl n1 (get_bI (by omega))
      have tkn := lawtake_eq (reach := bI (t.passTo xs i).2 (t.row i).house.toNat) ho.by_ ho.most.1
      have e1 : (t.passTo xs (i + 1)).1 = (t.passTo xs i).1 ++ [tk (t.row i).share (t.row i).by_ (t.row i).most (bI (t.passTo xs i).2 (t.row i).house.toNat)] := rfl
      have sd : setD ((t.passTo xs i).2.map D.int) (t.row i).house (.int (bI (t.passTo xs i).2 (t.row i).house.toNat - tk (t.row i).share (t.row i).by_ (t.row i).most (bI (t.passTo xs i).2 (t.row i).house.toNat))) = some ((t.passTo xs (i + 1)).2.map D.int) := by
        rw [setD_ok n1 (by rw [List.length_map]; omega)]
        show _ = some ((List.set _ _ _).map D.int)
        rw [List.map_set]
      have hl2 : ((t.passTo xs i).1.map D.int).length < 16777216 := by rw [List.length_map]; omega
      generalize hq : tk (t.row i).share (t.row i).by_ (t.row i).most (bI (t.passTo xs i).2 (t.row i).house.toNat) = q at *
      generalize hE : (S.fz (.lst (t.rows.map Cov.d))) = E0 at *
      generalize (S.fz (.lst (t.rows.map Cov.split))) = E2 at *
      generalize (S.fz (.lst (xs.map D.int))) = E3 at *
      generalize (S.fz (intsD t.befell)) = E1 at *
      refine ⟨[E0, E1, E2, E3, .ow (.lst ((t.passTo xs i).2.map D.int)), .ow (.lst ((t.passTo xs i).1.map D.int)), .fz (.int (t.row i).house), .fz (kindD (t.row i).share), .fz (.int (t.row i).by_), .fz (.int (t.row i).most), .fz (linesD (t.row i).lines), s9],
        [E0, E1, E2, E3, .ow (.lst ((t.passTo xs (i + 1)).2.map D.int)), .ow (.lst ((t.passTo xs (i + 1)).1.map D.int)), .fz (.int (t.row i).house), .fz (kindD (t.row i).share), .fz (.int (t.row i).by_), .fz (.int (t.row i).most), .fz (linesD (t.row i).lines), .fz (.int q)], ?_, .inl ?_, _, _, _, _, _, _, ⟨rfl, rfl, rfl, rfl, rfl, rfl⟩, rfl⟩
      · simp [Cov.d, f4, f5, f6, f7, f8]
      · rw [e1, List.map_append, List.map_cons, List.map_nil]
        generalize ((t.passTo xs (i + 1)).2.map D.int) = z3 at *
        generalize ((t.passTo xs i).2.map D.int) = z2 at *
        generalize ((t.passTo xs i).1.map D.int) = z1 at *
        generalize kindD (t.row i).share = kd at *
        simp [m_law_passed_l1, f9, i1, tkn, sd, hl2])
  rw [List.length_map] at he
  subst he
  refine runF_rt rfl (by decide) (e := [.fz (.lst (t.rows.map Cov.d)), .fz (intsD t.befell), .fz (.lst (t.rows.map Cov.split)), .fz (.lst (xs.map D.int)), .fz (.lst ((t.left xs).map D.int)), .fz (.lst ((t.asks xs).map D.int)), s6, s7, s8, s9, s10, s11]) ?_ (fun l o z => by cases z)
  have h1 : _ = Fl.nx [.fz (.lst (t.rows.map Cov.d)), .fz (intsD t.befell), .fz (.lst (t.rows.map Cov.split)), .fz (.lst (xs.map D.int)), .ow (.lst ((t.left xs).map D.int)), .ow (.lst ((t.asks xs).map D.int)), s6, s7, s8, s9, s10, s11] := h1
  show m_law_passed [.fz (.lst (t.rows.map Cov.d)), .fz (intsD t.befell), .fz (.lst (t.rows.map Cov.split)), .fz (.lst (xs.map D.int)), .un, .un, .un, .un, .un, .un, .un, .un] = _
  generalize (t.loads xs).map D.int = z0 at *
  generalize (t.left xs).map D.int = z1 at *
  generalize (t.asks xs).map D.int = z2 at *
  generalize t.rows.map Cov.d = zr at *
  generalize t.rows.map Cov.split = zs at *
  generalize xs.map D.int = zx at *
  simp [m_law_passed, b, h1]
theorem lawaccount_eq {t : Tab} (h : t.Ok) {ds : List Int} (hl : ds.length = 10) : ∃ xs, t.Acc xs ∧ f_law_account [.fz (.lst (t.rows.map Cov.d)), .fz (.lst (ds.map D.int))] = .ok (.tmp (.lst (xs.map D.int))) none := by
  have hfew := h.few
  let g : Nat → Int := fun i => bI ds i % ((t.row i).most + 1)
  refine ⟨(List.range t.rows.length).map g, ⟨by simp, fun i hi => ?_⟩, runF_rt rfl (by decide) (e := [.fz (.lst (t.rows.map Cov.d)), .fz (.lst (ds.map D.int)), .un]) ?_ (fun l o z => by cases z)⟩
  · have e : bI ((List.range t.rows.length).map g) i = g i := by
      unfold bI; rw [List.getD_eq_getElem?_getD, List.getElem?_map, List.getElem?_range hi]; rfl
    have hm := (h.rows _ (Tab.row_mem hi)).most
    rw [e]
    show 0 ≤ bI ds i % ((t.row i).most + 1) ∧ bI ds i % ((t.row i).most + 1) ≤ _
    have a1 := Int.emod_nonneg (bI ds i) (show (t.row i).most + 1 ≠ 0 by omega)
    have a2 := Int.emod_lt_of_pos (bI ds i) (show 0 < (t.row i).most + 1 by omega)
    omega
  have kr : kRng1 [.fz (.int (t.rows.length : Int))] = some (0, t.rows.length) := kRng1_nat (by omega)
  have kl : kLen [.fz (.lst (t.rows.map Cov.d))] = some (t.rows.length : Int) := by simp
  have c : mComp 2 tYesB (mI iMod (mIx (mVar 1) (mVar 2)) (mI iAdd (mIx (mIx (mVar 0) (mVar 2)) (mC (.int 3))) (mC (.int 1)))) (rngD 0 t.rows.length) [.fz (.lst (t.rows.map Cov.d)), .fz (.lst (ds.map D.int)), .un] = .ok (.tmp (.lst (((List.range t.rows.length).map g).map D.int))) := by
    rw [List.map_map]
    refine mComp_rng _ rfl (by omega) (by simp) (fun i hi => rfl) (fun i hi => ?_)
    rw [Int.zero_add]
    have hm := (h.rows _ (Tab.row_mem hi)).most
    have i3 : kIx (.fz (.lst (t.rows.map Cov.d))) (.fz (.int (i : Int))) = some (t.row i).d := kIx_ok rfl rfl (map_get (Tab.row_get hi))
    have i4 : kIx (.fz (t.row i).d) (.fz (.int 3)) = some (.int (t.row i).most) := kIx_ok (j := 3) rfl rfl rfl
    have i1 : kIx (.fz (.lst (ds.map D.int))) (.fz (.int (i : Int))) = some (.int (bI ds i)) := kIx_ints rfl (by omega)
    have k : iMod (bI ds i) ((t.row i).most + 1) = some (g i) := iMod_pos (by omega)
    generalize t.rows.map Cov.d = zr at *
    simp [i1, i3, i4, k]
  show m_law_account [.fz (.lst (t.rows.map Cov.d)), .fz (.lst (ds.map D.int)), .un] = _
  generalize (((List.range t.rows.length).map g).map D.int) = zz at *
  generalize t.rows.map Cov.d = zr at *
  simp [m_law_account, kl, kr, c]
theorem mosts_acc {t : Tab} (h : t.Ok) : t.Acc (t.rows.map Cov.most) := ⟨by simp, fun i hi => by
  have e : bI (t.rows.map Cov.most) i = (t.row i).most := by
    unfold bI; rw [List.getD_eq_getElem?_getD, map_get (Tab.row_get hi)]; rfl
  have hm := (h.rows _ (Tab.row_mem hi)).most
  omega⟩
/-- all covers of house 0, in layers, with one signer -/
def ring1 (n : Nat) (c : Cov) : Cov := ⟨0, false, c.by_, c.most, [(1 + c.house % ((n : Int) - 1), 5)]⟩
theorem ring1_ok {n : Nat} {c : Cov} (h : c.Ok n) (hn : 1 < n) (h6 : n ≤ 6) : (ring1 n c).Ok n := by
  have e1 := Int.emod_nonneg c.house (show (n : Int) - 1 ≠ 0 by omega)
  have e2 := Int.emod_lt_of_pos c.house (show 0 < (n : Int) - 1 by omega)
  refine ⟨⟨by show (0 : Int) ≤ 0; omega, by show (0 : Int) < n; omega⟩, ⟨fun z => (by cases z), fun _ => ?_⟩, h.most, ⟨⟨by simp [ring1], by simp [ring1], fun p hp => ?_⟩, fun p hp => ?_, by simp [ring1]⟩, fun p hp => ?_⟩
  · show 0 ≤ c.by_ ∧ c.by_ ≤ 200
    cases hs : c.share with
    | true => have := h.by_.sh hs; omega
    | false => exact h.by_.la hs
  all_goals
    have : p = (1 + c.house % ((n : Int) - 1), 5) := List.mem_singleton.mp hp
    subst this
  · show 1 ≤ (5 : Int) ∧ (5 : Int) ≤ 20; omega
  · show 0 ≤ 1 + c.house % ((n : Int) - 1) ∧ 1 + c.house % ((n : Int) - 1) < 6; omega
  · show 0 ≤ 1 + c.house % ((n : Int) - 1) ∧ 1 + c.house % ((n : Int) - 1) < n ∧ 1 + c.house % ((n : Int) - 1) ≠ 0; omega
def Tab.ringed (t : Tab) : Tab := ⟨t.size, t.rows.map (ring1 t.size), t.befell⟩
theorem Tab.ringed_ok {t : Tab} (h : t.Ok) (hn : 1 < t.size) : t.ringed.Ok := ⟨h.size, by show (t.rows.map _).length ≤ 10; rw [List.length_map]; exact h.few, fun c hc => by
  obtain ⟨q, hq, rfl⟩ := List.mem_map.mp hc
  exact ring1_ok (h.rows q hq) hn h.size.2, h.len, h.befell⟩
theorem law_true (ns : List Int) (h : ns.length ≤ 63) : f_law [.fz (.scr ns)] = .ok (.fz (.bl true)) none := by
  obtain ⟨ds, hl, hr, hd⟩ := draws_eq ns h 120 (by omega)
  have hd : f_law_draws [.fz (.scr ns), .fz (.int 120)] = .ok (.tmp (.lst (ds.map D.int))) none := hd
  obtain ⟨t, ht, hm⟩ := lawmade_eq hr (show 99 ≤ ds.length by omega)
  have hfew := ht.few
  have i111 : kIx (.fz (.lst (ds.map D.int))) (.fz (.int 111)) = some (.int (bI ds 111)) := kIx_ints rfl (by omega)
  have s1 : kSlL (.fz (.lst (ds.map D.int))) (some 100) (some 110) = some (((ds.drop 100).take (110 - 100)).map D.int) := slice_ints rfl rfl (by omega) (by omega)
  have m7 : iMod (bI ds 111) 3 = some (bI ds 111 % 3) := iMod_pos (by omega)
  have un : unpK (gT (gsCons (gN 2) (gsCons (gN 3) (gsCons (gN 4) gsNil))) 3) (.ok (.fz (.tup [.int t.size, .lst (t.rows.map Cov.d), intsD t.befell]))) [.fz (.scr ns), .fz (.lst (ds.map D.int)), .un, .un, .un, .un, .un, .un, .un, .un] = .nx [.fz (.scr ns), .fz (.lst (ds.map D.int)), .fz (.int t.size), .fz (.lst (t.rows.map Cov.d)), .fz (intsD t.befell), .un, .un, .un, .un, .un] := rfl
  have fin : ∀ u : Tab, u.Ok → u.size = t.size → u.befell = t.befell → ∃ xs : List Int, f_law_account [.fz (.lst (u.rows.map Cov.d)), .fz (.lst (((ds.drop 100).take (110 - 100)).map D.int))] = .ok (.tmp (.lst (xs.map D.int))) none ∧
      f_law_splits [.fz (.lst (u.rows.map Cov.d))] = .ok (.tmp (.lst (u.rows.map Cov.split))) none ∧
      f_law_passed [.fz (.lst (u.rows.map Cov.d)), .fz (intsD t.befell), .fz (.lst (u.rows.map Cov.split)), .fz (.lst (xs.map D.int))] = .ok (.fz (.tup [.lst ((u.asks xs).map D.int), .lst ((u.left xs).map D.int)])) none ∧
      mMade (f_Table___init__ [.mu (.obj "Table" []), .fz (.int t.size), .fz (.lst (u.rows.map Cov.d)), .fz (intsD t.befell)]) = .ok (.tmp u.o) ∧
      f_asked [.fz u.d, .fz (.lst (xs.map D.int))] = .ok (.fz (.lst ((u.asks xs).map D.int))) none ∧
      kEq (.fz (.lst (xs.map D.int))) (.fz (.lst (xs.map D.int))) = some true ∧
      f_law_list [.fz (.lst ((u.asks xs).map D.int)), .fz (.lst ((u.asks xs).map D.int))] = .ok (.fz (.bl true)) none := fun u hu h1 h2 => by
    obtain ⟨xs, a, q⟩ := lawaccount_eq hu (ds := (ds.drop 100).take (110 - 100)) (by rw [slice_len (by omega) (by omega)])
    refine ⟨xs, q, lawsplits_eq hu, ?_, ?_, asked_eq hu a (IsL.fz xs), by rw [kEq_ints (P.ints_fz _) (P.ints_fz _)]; simp, list_eq (.inr rfl)⟩
    · rw [← h2]; exact lawpassed_eq hu a
    · rw [← h1, ← h2]; exact made_eq hu
  by_cases c : 1 < t.size ∧ bI ds 111 % 3 = 1
  · obtain ⟨cn, c3⟩ := c
    have cn' : 1 < (t.size : Int) := by omega
    obtain ⟨xs, z1, z2, z3, z4, z5, z6, z7⟩ := fin t.ringed (Tab.ringed_ok ht cn) rfl rfl
    have hs := ht.size
    have cm : mComp 5 tYesB (mTup (mCons (mC (.int 0)) (mCons (mC (.str "layer")) (mCons (mIx (mVar 5) (mC (.int 2))) (mCons (mIx (mVar 5) (mC (.int 3))) (mCons (mTup (mCons (mTup (mCons (mI iAdd (mC (.int 1)) (mI iMod (mIx (mVar 5) (mC (.int 0))) (mI iSub (mVar 2) (mC (.int 1))))) (mCons (mC (.int 5)) mNil))) mNil)) mNil)))))) (t.rows.map Cov.d)
        [.fz (.scr ns), .fz (.lst (ds.map D.int)), .fz (.int t.size), .fz (.lst (t.rows.map Cov.d)), .fz (intsD t.befell), .un, .un, .un, .un, .un] = .ok (.tmp (.lst (t.ringed.rows.map Cov.d))) := by
      show _ = Res.ok (R.tmp (O.lst ((t.rows.map (ring1 t.size)).map Cov.d)))
      rw [List.map_map (l := t.rows) (f := ring1 t.size)]
      refine mComp_map Cov.d _ rfl (by simp) (by omega) fun c hc => ?_
      have x0 : kIx (.fz c.d) (.fz (.int 0)) = some (.int c.house) := kIx_ok (j := 0) rfl rfl rfl
      have x2 : kIx (.fz c.d) (.fz (.int 2)) = some (.int c.by_) := kIx_ok (j := 2) rfl rfl rfl
      have x3 : kIx (.fz c.d) (.fz (.int 3)) = some (.int c.most) := kIx_ok (j := 3) rfl rfl rfl
      have k : iMod c.house ((t.size : Int) - 1) = some (c.house % ((t.size : Int) - 1)) := iMod_pos (by omega)
      have e : (Cov.d ∘ ring1 t.size) c = .tup [.int 0, .str "layer", .int c.by_, .int c.most, .tup [.tup [.int (1 + c.house % ((t.size : Int) - 1)), .int 5]]] := rfl
      rw [e]
      generalize t.rows.map Cov.d = zr at *
      generalize c.d = cd at *
      simp [x0, x2, x3, k]
    refine runF_rt rfl (by decide) (e := [.fz (.scr ns), .fz (.lst (ds.map D.int)), .fz (.int t.size), .fz (.lst (t.ringed.rows.map Cov.d)), .fz (intsD t.befell), .un, .fz (.lst (xs.map D.int)), .fz (.lst ((t.ringed.asks xs).map D.int)), .fz (.lst (xs.map D.int)), .fz (.lst ((t.ringed.asks xs).map D.int))]) ?_ (fun l o z => by cases z)
    show m_law [.fz (.scr ns), .un, .un, .un, .un, .un, .un, .un, .un, .un] = _
    generalize (t.ringed.asks xs).map D.int = zl at *
    generalize (t.ringed.left xs).map D.int = zl2 at *
    generalize xs.map D.int = zm at *
    generalize (((ds.drop 100).take (110 - 100)).map D.int) = zd at *
    generalize intsD t.befell = zb at *
    generalize (t.ringed.rows.map Cov.d) = zr2 at *
    generalize (t.ringed.rows.map Cov.split) = zs at *
    generalize (t.rows.map Cov.d) = zr at *
    simp [m_law, hd, hm, un, s1, i111, m7, c3, cn, cn', cm, z1, z2, z3, z4, z5, z6, z7]
  · obtain ⟨xs, z1, z2, z3, z4, z5, z6, z7⟩ := fin t ht rfl rfl
    refine runF_rt rfl (by decide) (e := [.fz (.scr ns), .fz (.lst (ds.map D.int)), .fz (.int t.size), .fz (.lst (t.rows.map Cov.d)), .fz (intsD t.befell), .un, .fz (.lst (xs.map D.int)), .fz (.lst ((t.asks xs).map D.int)), .fz (.lst (xs.map D.int)), .fz (.lst ((t.asks xs).map D.int))]) ?_ (fun l o z => by cases z)
    show m_law [.fz (.scr ns), .un, .un, .un, .un, .un, .un, .un, .un, .un] = _
    generalize (t.asks xs).map D.int = zl at *
    generalize (t.left xs).map D.int = zl2 at *
    generalize xs.map D.int = zm at *
    generalize (((ds.drop 100).take (110 - 100)).map D.int) = zd at *
    generalize intsD t.befell = zb at *
    generalize (t.rows.map Cov.d) = zr at *
    generalize (t.rows.map Cov.split) = zs at *
    by_cases c2 : 1 < (t.size : Int)
    · have c3 : ¬ (bI ds 111 % 3 = 1) := fun z => c ⟨by omega, z⟩
      simp [m_law, hd, hm, un, s1, i111, m7, c3, c2, z1, z2, z3, z4, z5, z6, z7]
    · have c4 : ¬ 1 < t.size := by omega
      simp [m_law, hd, hm, un, s1, i111, m7, c2, c4, z1, z2, z3, z4, z5, z6, z7]
end RC

set_option Elab.async false
set_option linter.all false
set_option maxRecDepth 100000
set_option maxHeartbeats 4000000

namespace RC
open PySem PySem.Spec PyProof.Rows L2
def topS (i : Nat) : Stmt := PySem.Challenge.pw_ringcede_k12_asked_by_an_account.main.body.getD i (.Pass ⟨0, 0, 0, 0⟩)
structure Tx (K : PySem.W.Frag) (mg : Str → Option Value) where
  b_bool : mg "bool" = none
  b_int : mg "int" = none
  b_isinstance : mg "isinstance" = none
  b_len : mg "len" = none
  b_list : mg "list" = none
  b_max : mg "max" = none
  b_min : mg "min" = none
  b_range : mg "range" = none
  b_tuple : mg "tuple" = none
  tk_MOST_SIGNERS : Tok
  c_MOST_SIGNERS : mg "MOST_SIGNERS" = some (.int 4 tk_MOST_SIGNERS)
  tk_MOST_HOUSES : Tok
  c_MOST_HOUSES : mg "MOST_HOUSES" = some (.int 6 tk_MOST_HOUSES)
  tk_MOST_LINE : Tok
  c_MOST_LINE : mg "MOST_LINE" = some (.int 20 tk_MOST_LINE)
  tk_MOST_POINT : Tok
  c_MOST_POINT : mg "MOST_POINT" = some (.int 200 tk_MOST_POINT)
  tk_MOST : Tok
  c_MOST : mg "MOST" = some (.int 24 tk_MOST)
  C_BadHouses : Addr
  x_BadHouses : Xc ⟨K, mg⟩ "BadHouses" C_BadHouses
  tk_MOST_COVERS : Tok
  c_MOST_COVERS : mg "MOST_COVERS" = some (.int 10 tk_MOST_COVERS)
  C_BadCover : Addr
  x_BadCover : Xc ⟨K, mg⟩ "BadCover" C_BadCover
  C_BadLosses : Addr
  x_BadLosses : Xc ⟨K, mg⟩ "BadLosses" C_BadLosses
  tk_MOST_LOSS : Tok
  c_MOST_LOSS : mg "MOST_LOSS" = some (.int 9999 tk_MOST_LOSS)
  C_NoHouse : Addr
  x_NoHouse : Xc ⟨K, mg⟩ "NoHouse" C_NoHouse
  C_BadAccount : Addr
  x_BadAccount : Xc ⟨K, mg⟩ "BadAccount" C_BadAccount
  C_Table : Addr
  g_Table : mg "Table" = some (.ref C_Table)
  cls_Table : Cls K C_Table
  na_Table_befell : NoAttr K C_Table "befell"
  na_Table_rows : NoAttr K C_Table "rows"
  na_Table_size : NoAttr K C_Table "size"
  na_Table_splits : NoAttr K C_Table "splits"
section
variable {P : Program} {w : World} {K : PySem.W.Frag} {mg : Str → Option Value} {base : Heap}
abbrev s_are_lines : Stmt := topS 12
theorem sc_are_lines : FnScope ["lines", "seen", "house", "line"] ["lines"] (defScope s_are_lines) := ⟨rfl, rfl, rfl, by decide +kernel, rfl, by decide +kernel, by decide +kernel⟩
theorem ok_are_lines {f : Addr} {fd : FuncData} (F : Fun K "are_lines" "are_lines" s_are_lines f fd) (T : Tx K mg) : FnOk P w K mg base (L2.CX P w) 1 f fd ["lines"] (spF ⟨K, mg⟩ f_are_lines) :=
  rf_ok (k := 0) (m := m_are_lines) F sc_are_lines (by decide) fun cdv A outer s H E om0 H0 v0 W hr ks => by
    have kx := ks.toKx
    exact (ss_cons (s_if (PW.pt (tw_or (t_lt (r_len kx T.b_len (ra_cons (r_var (pv 0)) ra_nil)) r_int) (pw_or1 (t_gt (r_len kx T.b_len (ra_cons (r_var (pv 0)) ra_nil)) (r_globI rfl T.c_MOST_SIGNERS))))) (ss_one (s_ret (c_up r_bl))) ss_nil) (ss_cons (s_own (i := 1) kx rfl (by first | exact Or.inl rfl | exact Or.inr rfl) (r_lst ra_nil)) (ss_cons (s_forT ks (r_var (pv 0)) (g_tup kx (gs_cons (g_name (i := 2) kx.nd rfl (by first | exact Or.inl rfl | exact Or.inr rfl)) (gs_cons (g_name (i := 3) kx.nd rfl (by first | exact Or.inl rfl | exact Or.inr rfl)) gs_nil))) (ss_cons (s_if (PW.pt (tw_or (t_lt (r_var (pv 2)) r_int) (tw_or (t_ge (r_var (pv 2)) (r_globI rfl T.c_MOST_HOUSES)) (tw_or (t_in kx (r_var (pv 2)) (r_var (pv 1))) (tw_or (t_lt (r_var (pv 3)) r_int) (pw_or1 (t_gt (r_var (pv 3)) (r_globI rfl T.c_MOST_LINE)))))))) (ss_one (s_ret (c_up r_bl))) ss_nil) (ss_one (s_app (pv 1) (r_var (pv 2)))))) (ss_one (s_ret (c_up r_bl))))))
abbrev s_foremost : Stmt := topS 13
theorem sc_foremost : FnScope ["lines", "borne", "best", "at"] ["lines", "borne"] (defScope s_foremost) := ⟨rfl, rfl, rfl, by decide +kernel, rfl, by decide +kernel, by decide +kernel⟩
theorem ok_foremost {f : Addr} {fd : FuncData} (F : Fun K "foremost" "foremost" s_foremost f fd) (T : Tx K mg) : FnOk P w K mg base (L2.CX P w) 1 f fd ["lines", "borne"] (spF ⟨K, mg⟩ f_foremost) :=
  rf_ok (k := 0) (m := m_foremost) F sc_foremost (by decide) fun cdv A outer s H E om0 H0 v0 W hr ks => by
    have kx := ks.toKx
    exact (ss_cons (s_set (i := 2) kx rfl (by first | exact Or.inl rfl | exact Or.inr rfl) r_int) (ss_cons (s_forR2 ks T.b_range (ra_cons r_int (ra_cons (r_len kx T.b_len (ra_cons (r_var (pv 0)) ra_nil)) ra_nil)) (g_name (i := 3) kx.nd rfl (by first | exact Or.inl rfl | exact Or.inr rfl)) (ss_one (s_if (t_lt (r_mul (r_add (r_ix kx (r_var (pv 1)) (r_var (pv 3))) r_int) (r_ix kx (r_ix kx (r_var (pv 0)) (r_var (pv 2))) r_int)) (r_mul (r_add (r_ix kx (r_var (pv 1)) (r_var (pv 2))) r_int) (r_ix kx (r_ix kx (r_var (pv 0)) (r_var (pv 3))) r_int))) (ss_one (s_set (i := 2) kx rfl (by first | exact Or.inl rfl | exact Or.inr rfl) (r_var (pv 3)))) ss_nil))) (ss_one (s_ret (c_up (r_var (pv 2)))))))
abbrev s_grown_parts : Stmt := topS 14
theorem sc_grown_parts : FnScope ["lines", "most", "borne", "rows", "crown"] ["lines", "most"] (defScope s_grown_parts) := ⟨rfl, rfl, rfl, by decide +kernel, rfl, by decide +kernel, by decide +kernel⟩
theorem ok_grown_parts {f : Addr} {fd : FuncData} (F : Fun K "grown_parts" "grown_parts" s_grown_parts f fd) (T : Tx K mg) (c_foremost : Cl P w ⟨K, mg⟩ base 1 "foremost" f_foremost) : FnOk P w K mg base (L2.CX P w) 2 f fd ["lines", "most"] (spF ⟨K, mg⟩ f_grown_parts) :=
  rf_ok (k := 1) (m := m_grown_parts) F sc_grown_parts (by decide) fun cdv A outer s H E om0 H0 v0 W hr ks => by
    have kx := ks.toKx
    exact (ss_cons (s_own (i := 2) kx rfl (by first | exact Or.inl rfl | exact Or.inr rfl) (r_rep (c_op (r_lst (ra_cons r_int ra_nil))) (r_len kx T.b_len (ra_cons (r_var (pv 0)) ra_nil)))) (ss_cons (s_own (i := 3) kx rfl (by first | exact Or.inl rfl | exact Or.inr rfl) (r_lst (ra_cons (c_op (r_listc kx T.b_list (ra_cons (r_var (pv 2)) ra_nil))) ra_nil))) (ss_cons (s_forR1 ks T.b_range (ra_cons (r_var (pv 1)) ra_nil) (g_name (i := 4) kx.nd rfl (by first | exact Or.inl rfl | exact Or.inr rfl)) (ss_cons (s_augI ip_add (pv 2) (c_op (r_call kx c_foremost (hr.mono (by decide)) (ra_cons (r_var (pv 0)) (ra_cons (r_var (pv 2)) ra_nil)))) r_int) (ss_one (s_app (pv 3) (c_op (r_listc kx T.b_list (ra_cons (r_var (pv 2)) ra_nil))))))) (ss_one (s_retO (pv 3))))))
abbrev s_is_by : Stmt := topS 17
theorem sc_is_by : FnScope ["kind", "by"] ["kind", "by"] (defScope s_is_by) := ⟨rfl, rfl, rfl, by decide +kernel, rfl, by decide +kernel, by decide +kernel⟩
theorem ok_is_by {f : Addr} {fd : FuncData} (F : Fun K "is_by" "is_by" s_is_by f fd) (T : Tx K mg) : FnOk P w K mg base (L2.CX P w) 1 f fd ["kind", "by"] (spF ⟨K, mg⟩ f_is_by) :=
  rf_ok (k := 0) (m := m_is_by) F sc_is_by (by decide) fun cdv A outer s H E om0 H0 v0 W hr ks => by
    have kx := ks.toKx
    exact (ss_cons (s_if (t_eq kx (r_var (pv 0)) r_str) (ss_one (s_ret (c_up (r_and (v_ge (r_var (pv 1)) r_int) (pe_one (v_le (r_var (pv 1)) r_int)))))) ss_nil) (ss_one (s_ret (c_up (r_and (v_eq kx (r_var (pv 0)) r_str) (r_and (v_ge (r_var (pv 1)) r_int) (pe_one (v_le (r_var (pv 1)) (r_globI rfl T.c_MOST_POINT)))))))))
abbrev s_is_cover : Stmt := topS 18
theorem sc_is_cover : FnScope ["houses", "cover", "house", "kind", "by", "most", "lines", "signer", "line"] ["houses", "cover"] (defScope s_is_cover) := ⟨rfl, rfl, rfl, by decide +kernel, rfl, by decide +kernel, by decide +kernel⟩
theorem ok_is_cover {f : Addr} {fd : FuncData} (F : Fun K "is_cover" "is_cover" s_is_cover f fd) (T : Tx K mg) (c_are_lines : Cl P w ⟨K, mg⟩ base 1 "are_lines" f_are_lines) (c_is_by : Cl P w ⟨K, mg⟩ base 1 "is_by" f_is_by) : FnOk P w K mg base (L2.CX P w) 2 f fd ["houses", "cover"] (spF ⟨K, mg⟩ f_is_cover) :=
  rf_ok (k := 1) (m := m_is_cover) F sc_is_cover (by decide) fun cdv A outer s H E om0 H0 v0 W hr ks => by
    have kx := ks.toKx
    exact (ss_cons (s_if (t_ne kx (r_len kx T.b_len (ra_cons (r_var (pv 1)) ra_nil)) r_int) (ss_one (s_ret (c_up r_bl))) ss_nil) (ss_cons (s_unp (r_var (pv 1)) (g_tup kx (gs_cons (g_name (i := 2) kx.nd rfl (by first | exact Or.inl rfl | exact Or.inr rfl)) (gs_cons (g_name (i := 3) kx.nd rfl (by first | exact Or.inl rfl | exact Or.inr rfl)) (gs_cons (g_name (i := 4) kx.nd rfl (by first | exact Or.inl rfl | exact Or.inr rfl)) (gs_cons (g_name (i := 5) kx.nd rfl (by first | exact Or.inl rfl | exact Or.inr rfl)) (gs_cons (g_name (i := 6) kx.nd rfl (by first | exact Or.inl rfl | exact Or.inr rfl)) gs_nil))))))) (ss_cons (s_if (PW.pt (tw_or (t_lt (r_var (pv 2)) r_int) (tw_or (t_ge (r_var (pv 2)) (r_var (pv 0))) (tw_or (t_not (t_val (c_op (r_call kx c_is_by (hr.mono (by decide)) (ra_cons (r_var (pv 3)) (ra_cons (r_var (pv 4)) ra_nil)))))) (tw_or (t_lt (r_var (pv 5)) r_int) (pw_or1 (t_gt (r_var (pv 5)) (r_globI rfl T.c_MOST)))))))) (ss_one (s_ret (c_up r_bl))) ss_nil) (ss_cons (s_if (t_not (t_val (c_op (r_call kx c_are_lines (hr.mono (by decide)) (ra_cons (r_var (pv 6)) ra_nil))))) (ss_one (s_ret (c_up r_bl))) ss_nil) (ss_cons (s_forT ks (r_var (pv 6)) (g_tup kx (gs_cons (g_name (i := 7) kx.nd rfl (by first | exact Or.inl rfl | exact Or.inr rfl)) (gs_cons (g_name (i := 8) kx.nd rfl (by first | exact Or.inl rfl | exact Or.inr rfl)) gs_nil))) (ss_one (s_if (PW.pt (tw_or (t_ge (r_var (pv 7)) (r_var (pv 0))) (pw_or1 (t_eq kx (r_var (pv 7)) (r_var (pv 2)))))) (ss_one (s_ret (c_up r_bl))) ss_nil))) (ss_one (s_ret (c_up r_bl))))))))
abbrev s_taken : Stmt := topS 19
theorem sc_taken : FnScope ["kind", "by", "most", "reach"] ["kind", "by", "most", "reach"] (defScope s_taken) := ⟨rfl, rfl, rfl, by decide +kernel, rfl, by decide +kernel, by decide +kernel⟩
theorem ok_taken {f : Addr} {fd : FuncData} (F : Fun K "taken" "taken" s_taken f fd) (T : Tx K mg) : FnOk P w K mg base (L2.CX P w) 1 f fd ["kind", "by", "most", "reach"] (spF ⟨K, mg⟩ f_taken) :=
  rf_ok (k := 0) (m := m_taken) F sc_taken (by decide) fun cdv A outer s H E om0 H0 v0 W hr ks => by
    have kx := ks.toKx
    exact (ss_cons (s_if (t_eq kx (r_var (pv 0)) r_str) (ss_one (s_ret (c_up (r_min2 kx T.b_min (ra_cons (r_var (pv 2)) (ra_cons (r_div (r_mul (r_var (pv 3)) (r_var (pv 1))) r_int) ra_nil)))))) ss_nil) (ss_one (s_ret (c_up (r_min2 kx T.b_min (ra_cons (r_var (pv 2)) (ra_cons (r_max2 kx T.b_max (ra_cons r_int (ra_cons (r_sub (r_var (pv 3)) (r_var (pv 1))) ra_nil))) ra_nil)))))))
abbrev s_look_houses : Stmt := topS 23
theorem sc_look_houses : FnScope ["houses"] ["houses"] (defScope s_look_houses) := ⟨rfl, rfl, rfl, by decide +kernel, rfl, by decide +kernel, by decide +kernel⟩
theorem ok_look_houses {f : Addr} {fd : FuncData} (F : Fun K "look_houses" "look_houses" s_look_houses f fd) (T : Tx K mg) : FnOk P w K mg base (L2.CX P w) 1 f fd ["houses"] (spF ⟨K, mg⟩ f_look_houses) :=
  rf_ok (k := 0) (m := m_look_houses) F sc_look_houses (by decide) fun cdv A outer s H E om0 H0 v0 W hr ks => by
    have kx := ks.toKx
    exact (ss_one (s_if (PW.pt (tw_or (t_lt (r_var (pv 0)) r_int) (pw_or1 (t_gt (r_var (pv 0)) (r_globI rfl T.c_MOST_HOUSES))))) (ss_one (s_raise ks T.x_BadHouses)) ss_nil))
abbrev s_Table___init__ : Stmt := inClass (topS 24) 0
theorem sc_Table___init__ : FnScope ["self", "houses", "covers", "losses", "cover", "crowns"] ["self", "houses", "covers", "losses"] (defScope s_Table___init__) := ⟨rfl, rfl, rfl, by decide +kernel, rfl, by decide +kernel, by decide +kernel⟩
theorem ok_Table___init__ {f : Addr} {fd : FuncData} (F : Fun K "__init__" "Table.__init__" s_Table___init__ f fd) (T : Tx K mg) (c_grown_parts : Cl P w ⟨K, mg⟩ base 2 "grown_parts" f_grown_parts) (c_is_cover : Cl P w ⟨K, mg⟩ base 2 "is_cover" f_is_cover) (c_look_houses : Cl P w ⟨K, mg⟩ base 1 "look_houses" f_look_houses) : FnOk P w K mg base (L2.CX P w) 3 f fd ["self", "houses", "covers", "losses"] (spF ⟨K, mg⟩ f_Table___init__) :=
  rf_ok (k := 2) (m := m_Table___init__) F sc_Table___init__ (by decide) fun cdv A outer s H E om0 H0 v0 W hr ks => by
    have kx := ks.toKx
    exact (ss_cons (s_exp (r_call kx c_look_houses (hr.mono (by decide)) (ra_cons (r_var (pv 1)) ra_nil))) (ss_cons (s_if (t_gt (r_len kx T.b_len (ra_cons (r_var (pv 2)) ra_nil)) (r_globI rfl T.c_MOST_COVERS)) (ss_one (s_raise ks T.x_BadCover)) ss_nil) (ss_cons (s_forL ks (r_var (pv 2)) (g_name (i := 4) kx.nd rfl (by first | exact Or.inl rfl | exact Or.inr rfl)) (ss_one (s_if (t_not (t_val (c_op (r_call kx c_is_cover (hr.mono (by decide)) (ra_cons (r_var (pv 1)) (ra_cons (r_var (pv 4)) ra_nil)))))) (ss_one (s_raise ks T.x_BadCover)) ss_nil))) (ss_cons (s_if (t_ne kx (r_len kx T.b_len (ra_cons (r_var (pv 3)) ra_nil)) (r_var (pv 1))) (ss_one (s_raise ks T.x_BadLosses)) ss_nil) (ss_cons (s_forL ks (r_var (pv 3)) (g_name (i := 5) kx.nd rfl (by first | exact Or.inl rfl | exact Or.inr rfl)) (ss_one (s_if (PW.pt (tw_or (t_lt (r_var (pv 5)) r_int) (pw_or1 (t_gt (r_var (pv 5)) (r_globI rfl T.c_MOST_LOSS))))) (ss_one (s_raise ks T.x_BadLosses)) ss_nil))) (ss_cons (s_att kx T.g_Table T.cls_Table T.na_Table_size (pv 0) (r_var (pv 1))) (ss_cons (s_att kx T.g_Table T.cls_Table T.na_Table_rows (pv 0) (c_op (r_listc kx T.b_list (ra_cons (r_var (pv 2)) ra_nil)))) (ss_cons (s_att kx T.g_Table T.cls_Table T.na_Table_befell (pv 0) (c_op (r_listc kx T.b_list (ra_cons (r_var (pv 3)) ra_nil)))) (ss_one (s_att kx T.g_Table T.cls_Table T.na_Table_splits (pv 0) (c_op (r_lc kx lcL_imp (pi_list (r_var (pv 2))) (blkOk_by (own := [("cover", 4)]) (N := ["self", "houses", "covers", "losses", "cover", "crowns"]) (sc := defScope s_Table___init__) (by decide +kernel)) (fun _ _ _ _ _ => pg_name (i := 4) kx.nd rfl (Or.inl rfl)) (fun _ _ _ _ _ kx => ts_nil) (fun _ _ _ _ _ kx => (c_op (r_call kx c_grown_parts (hr.mono (by decide)) (ra_cons (r_ix kx (r_var (pv 4)) r_int) (ra_cons (r_ix kx (r_var (pv 4)) r_int) ra_nil)))))))))))))))))
abbrev s_Table_houses : Stmt := inClass (topS 24) 1
theorem sc_Table_houses : FnScope ["self"] ["self"] (defScope s_Table_houses) := ⟨rfl, rfl, rfl, by decide +kernel, rfl, by decide +kernel, by decide +kernel⟩
theorem ok_Table_houses {f : Addr} {fd : FuncData} (F : Fun K "houses" "Table.houses" s_Table_houses f fd) (T : Tx K mg) : FnOk P w K mg base (L2.CX P w) 1 f fd ["self"] (spF ⟨K, mg⟩ f_Table_houses) :=
  rf_ok (k := 0) (m := m_Table_houses) F sc_Table_houses (by decide) fun cdv A outer s H E om0 H0 v0 W hr ks => by
    have kx := ks.toKx
    exact (ss_one (s_ret (c_up (r_att kx T.g_Table T.cls_Table T.na_Table_size (r_var (pv 0))))))
abbrev s_Table_covers : Stmt := inClass (topS 24) 2
theorem sc_Table_covers : FnScope ["self"] ["self"] (defScope s_Table_covers) := ⟨rfl, rfl, rfl, by decide +kernel, rfl, by decide +kernel, by decide +kernel⟩
theorem ok_Table_covers {f : Addr} {fd : FuncData} (F : Fun K "covers" "Table.covers" s_Table_covers f fd) (T : Tx K mg) : FnOk P w K mg base (L2.CX P w) 1 f fd ["self"] (spF ⟨K, mg⟩ f_Table_covers) :=
  rf_ok (k := 0) (m := m_Table_covers) F sc_Table_covers (by decide) fun cdv A outer s H E om0 H0 v0 W hr ks => by
    have kx := ks.toKx
    exact (ss_one (s_ret (r_listc kx T.b_list (ra_cons (r_att kx T.g_Table T.cls_Table T.na_Table_rows (r_var (pv 0))) ra_nil))))
abbrev s_Table_losses : Stmt := inClass (topS 24) 3
theorem sc_Table_losses : FnScope ["self"] ["self"] (defScope s_Table_losses) := ⟨rfl, rfl, rfl, by decide +kernel, rfl, by decide +kernel, by decide +kernel⟩
theorem ok_Table_losses {f : Addr} {fd : FuncData} (F : Fun K "losses" "Table.losses" s_Table_losses f fd) (T : Tx K mg) : FnOk P w K mg base (L2.CX P w) 1 f fd ["self"] (spF ⟨K, mg⟩ f_Table_losses) :=
  rf_ok (k := 0) (m := m_Table_losses) F sc_Table_losses (by decide) fun cdv A outer s H E om0 H0 v0 W hr ks => by
    have kx := ks.toKx
    exact (ss_one (s_ret (r_listc kx T.b_list (ra_cons (r_att kx T.g_Table T.cls_Table T.na_Table_befell (r_var (pv 0))) ra_nil))))
abbrev s_Table_mosts : Stmt := inClass (topS 24) 4
theorem sc_Table_mosts : FnScope ["self", "cover"] ["self"] (defScope s_Table_mosts) := ⟨rfl, rfl, rfl, by decide +kernel, rfl, by decide +kernel, by decide +kernel⟩
theorem ok_Table_mosts {f : Addr} {fd : FuncData} (F : Fun K "mosts" "Table.mosts" s_Table_mosts f fd) (T : Tx K mg) : FnOk P w K mg base (L2.CX P w) 1 f fd ["self"] (spF ⟨K, mg⟩ f_Table_mosts) :=
  rf_ok (k := 0) (m := m_Table_mosts) F sc_Table_mosts (by decide) fun cdv A outer s H E om0 H0 v0 W hr ks => by
    have kx := ks.toKx
    exact (ss_one (s_ret (r_lc kx lcL_imp (pi_list (r_att kx T.g_Table T.cls_Table T.na_Table_rows (r_var (pv 0)))) (blkOk_by (own := [("cover", 1)]) (N := ["self", "cover"]) (sc := defScope s_Table_mosts) (by decide +kernel)) (fun _ _ _ _ _ => pg_name (i := 1) kx.nd rfl (Or.inl rfl)) (fun _ _ _ _ _ kx => ts_nil) (fun _ _ _ _ _ kx => (r_ix kx (r_var (pv 1)) r_int)))))
abbrev s_look_house : Stmt := topS 25
theorem sc_look_house : FnScope ["table", "house"] ["table", "house"] (defScope s_look_house) := ⟨rfl, rfl, rfl, by decide +kernel, rfl, by decide +kernel, by decide +kernel⟩
theorem ok_look_house {f : Addr} {fd : FuncData} (F : Fun K "look_house" "look_house" s_look_house f fd) (T : Tx K mg) (c_Table_houses : Clm P w ⟨K, mg⟩ base 1 "Table" "houses" f_Table_houses) : FnOk P w K mg base (L2.CX P w) 2 f fd ["table", "house"] (spF ⟨K, mg⟩ f_look_house) :=
  rf_ok (k := 1) (m := m_look_house) F sc_look_house (by decide) fun cdv A outer s H E om0 H0 v0 W hr ks => by
    have kx := ks.toKx
    exact (ss_one (s_if (PW.pt (tw_or (t_lt (r_var (pv 1)) r_int) (pw_or1 (t_ge (r_var (pv 1)) (c_op (r_meth0 kx c_Table_houses (hr.mono (by decide)) (r_var (pv 0)))))))) (ss_one (s_raise ks T.x_NoHouse)) ss_nil))
abbrev s_Table_more : Stmt := inClass (topS 24) 5
theorem sc_Table_more : FnScope ["self", "house", "crowns", "fresh"] ["self", "house", "crowns"] (defScope s_Table_more) := ⟨rfl, rfl, rfl, by decide +kernel, rfl, by decide +kernel, by decide +kernel⟩
theorem ok_Table_more {f : Addr} {fd : FuncData} (F : Fun K "more" "Table.more" s_Table_more f fd) (T : Tx K mg) (c_Table___init__ : Clc P w ⟨K, mg⟩ base 3 "Table" f_Table___init__) (c_look_house : Cl P w ⟨K, mg⟩ base 2 "look_house" f_look_house) : FnOk P w K mg base (L2.CX P w) 5 f fd ["self", "house", "crowns"] (spF ⟨K, mg⟩ f_Table_more) :=
  rf_ok (k := 4) (m := m_Table_more) F sc_Table_more (by decide) fun cdv A outer s H E om0 H0 v0 W hr ks => by
    have kx := ks.toKx
    exact (ss_cons (s_exp (r_call kx c_look_house (hr.mono (by decide)) (ra_cons (r_var (pv 0)) (ra_cons (r_var (pv 1)) ra_nil)))) (ss_cons (s_own (i := 3) kx rfl (by first | exact Or.inl rfl | exact Or.inr rfl) (r_listc kx T.b_list (ra_cons (r_att kx T.g_Table T.cls_Table T.na_Table_befell (r_var (pv 0))) ra_nil))) (ss_cons (s_augI ip_add (pv 3) (r_var (pv 1)) (r_var (pv 2))) (ss_one (s_ret (r_make kx c_Table___init__ (hr.mono (by decide)) (ra_cons (r_att kx T.g_Table T.cls_Table T.na_Table_size (r_var (pv 0))) (ra_cons (r_att kx T.g_Table T.cls_Table T.na_Table_rows (r_var (pv 0))) (ra_cons (r_var (pv 3)) ra_nil)))))))))
abbrev s_Table_loads : Stmt := inClass (topS 24) 6
theorem sc_Table_loads : FnScope ["self", "account", "found", "at", "borne", "lines", "place"] ["self", "account"] (defScope s_Table_loads) := ⟨rfl, rfl, rfl, by decide +kernel, rfl, by decide +kernel, by decide +kernel⟩
theorem ok_Table_loads {f : Addr} {fd : FuncData} (F : Fun K "loads" "Table.loads" s_Table_loads f fd) (T : Tx K mg) : FnOk P w K mg base (L2.CX P w) 1 f fd ["self", "account"] (spF ⟨K, mg⟩ f_Table_loads) :=
  rf_ok (k := 0) (m := m_Table_loads) F sc_Table_loads (by decide) fun cdv A outer s H E om0 H0 v0 W hr ks => by
    have kx := ks.toKx
    exact (ss_cons (s_own (i := 2) kx rfl (by first | exact Or.inl rfl | exact Or.inr rfl) (r_listc kx T.b_list (ra_cons (r_att kx T.g_Table T.cls_Table T.na_Table_befell (r_var (pv 0))) ra_nil))) (ss_cons (s_forR1 ks T.b_range (ra_cons (r_len kx T.b_len (ra_cons (r_att kx T.g_Table T.cls_Table T.na_Table_rows (r_var (pv 0))) ra_nil)) ra_nil) (g_name (i := 3) kx.nd rfl (by first | exact Or.inl rfl | exact Or.inr rfl)) (ss_cons (s_set (i := 4) kx rfl (by first | exact Or.inl rfl | exact Or.inr rfl) (r_ix kx (r_ix kx (r_att kx T.g_Table T.cls_Table T.na_Table_splits (r_var (pv 0))) (r_var (pv 3))) (r_ix kx (r_var (pv 1)) (r_var (pv 3))))) (ss_cons (s_set (i := 5) kx rfl (by first | exact Or.inl rfl | exact Or.inr rfl) (r_ix kx (r_ix kx (r_att kx T.g_Table T.cls_Table T.na_Table_rows (r_var (pv 0))) (r_var (pv 3))) r_int)) (ss_one (s_forR1 ks T.b_range (ra_cons (r_len kx T.b_len (ra_cons (r_var (pv 5)) ra_nil)) ra_nil) (g_name (i := 6) kx.nd rfl (by first | exact Or.inl rfl | exact Or.inr rfl)) (ss_one (s_augI ip_add (pv 2) (r_ix kx (r_ix kx (r_var (pv 5)) (r_var (pv 6))) r_int) (r_ix kx (r_var (pv 4)) (r_var (pv 6)))))))))) (ss_one (s_retO (pv 2)))))
abbrev s_Table_passed : Stmt := inClass (topS 24) 7
theorem sc_Table_passed : FnScope ["self", "account", "left", "asks", "house", "kind", "by", "most", "lines", "crowns"] ["self", "account"] (defScope s_Table_passed) := ⟨rfl, rfl, rfl, by decide +kernel, rfl, by decide +kernel, by decide +kernel⟩
theorem ok_Table_passed {f : Addr} {fd : FuncData} (F : Fun K "passed" "Table.passed" s_Table_passed f fd) (T : Tx K mg) (c_Table_loads : Clm P w ⟨K, mg⟩ base 1 "Table" "loads" f_Table_loads) (c_taken : Cl P w ⟨K, mg⟩ base 1 "taken" f_taken) : FnOk P w K mg base (L2.CX P w) 2 f fd ["self", "account"] (spF ⟨K, mg⟩ f_Table_passed) :=
  rf_ok (k := 1) (m := m_Table_passed) F sc_Table_passed (by decide) fun cdv A outer s H E om0 H0 v0 W hr ks => by
    have kx := ks.toKx
    exact (ss_cons (s_own (i := 2) kx rfl (by first | exact Or.inl rfl | exact Or.inr rfl) (r_meth kx c_Table_loads (hr.mono (by decide)) (r_var (pv 0)) (ra_cons (r_var (pv 1)) ra_nil))) (ss_cons (s_own (i := 3) kx rfl (by first | exact Or.inl rfl | exact Or.inr rfl) (r_lst ra_nil)) (ss_cons (s_forL ks (r_att kx T.g_Table T.cls_Table T.na_Table_rows (r_var (pv 0))) (g_tup kx (gs_cons (g_name (i := 4) kx.nd rfl (by first | exact Or.inl rfl | exact Or.inr rfl)) (gs_cons (g_name (i := 5) kx.nd rfl (by first | exact Or.inl rfl | exact Or.inr rfl)) (gs_cons (g_name (i := 6) kx.nd rfl (by first | exact Or.inl rfl | exact Or.inr rfl)) (gs_cons (g_name (i := 7) kx.nd rfl (by first | exact Or.inl rfl | exact Or.inr rfl)) (gs_cons (g_name (i := 8) kx.nd rfl (by first | exact Or.inl rfl | exact Or.inr rfl)) gs_nil)))))) (ss_cons (s_set (i := 9) kx rfl (by first | exact Or.inl rfl | exact Or.inr rfl) (c_op (r_call kx c_taken (hr.mono (by decide)) (ra_cons (r_var (pv 5)) (ra_cons (r_var (pv 6)) (ra_cons (r_var (pv 7)) (ra_cons (r_ix kx (r_var (pv 2)) (r_var (pv 4))) ra_nil))))))) (ss_cons (s_augI ip_sub (pv 2) (r_var (pv 4)) (r_var (pv 9))) (ss_one (s_app (pv 3) (r_var (pv 9))))))) (ss_cold 2 (ss_cold 3 (ss_one (s_ret (c_up (r_tup (ra_cons (r_var (pv 3)) (ra_cons (r_var (pv 2)) ra_nil)))))))))))
abbrev s_look_account : Stmt := topS 26
theorem sc_look_account : FnScope ["table", "account", "mosts", "at"] ["table", "account"] (defScope s_look_account) := ⟨rfl, rfl, rfl, by decide +kernel, rfl, by decide +kernel, by decide +kernel⟩
theorem ok_look_account {f : Addr} {fd : FuncData} (F : Fun K "look_account" "look_account" s_look_account f fd) (T : Tx K mg) (c_Table_mosts : Clm P w ⟨K, mg⟩ base 1 "Table" "mosts" f_Table_mosts) : FnOk P w K mg base (L2.CX P w) 2 f fd ["table", "account"] (spF ⟨K, mg⟩ f_look_account) :=
  rf_ok (k := 1) (m := m_look_account) F sc_look_account (by decide) fun cdv A outer s H E om0 H0 v0 W hr ks => by
    have kx := ks.toKx
    exact (ss_cons (s_set (i := 2) kx rfl (by first | exact Or.inl rfl | exact Or.inr rfl) (c_op (r_meth0 kx c_Table_mosts (hr.mono (by decide)) (r_var (pv 0))))) (ss_cons (s_if (t_ne kx (r_len kx T.b_len (ra_cons (r_var (pv 1)) ra_nil)) (r_len kx T.b_len (ra_cons (r_var (pv 2)) ra_nil))) (ss_one (s_raise ks T.x_BadAccount)) ss_nil) (ss_one (s_forR1 ks T.b_range (ra_cons (r_len kx T.b_len (ra_cons (r_var (pv 2)) ra_nil)) ra_nil) (g_name (i := 3) kx.nd rfl (by first | exact Or.inl rfl | exact Or.inr rfl)) (ss_one (s_if (PW.pt (tw_or (t_lt (r_ix kx (r_var (pv 1)) (r_var (pv 3))) r_int) (pw_or1 (t_gt (r_ix kx (r_var (pv 1)) (r_var (pv 3))) (r_ix kx (r_var (pv 2)) (r_var (pv 3))))))) (ss_one (s_raise ks T.x_BadAccount)) ss_nil))))))
abbrev s_asked : Stmt := topS 27
theorem sc_asked : FnScope ["table", "account"] ["table", "account"] (defScope s_asked) := ⟨rfl, rfl, rfl, by decide +kernel, rfl, by decide +kernel, by decide +kernel⟩
theorem ok_asked {f : Addr} {fd : FuncData} (F : Fun K "asked" "asked" s_asked f fd) (T : Tx K mg) (c_Table_passed : Clm P w ⟨K, mg⟩ base 2 "Table" "passed" f_Table_passed) (c_look_account : Cl P w ⟨K, mg⟩ base 2 "look_account" f_look_account) : FnOk P w K mg base (L2.CX P w) 3 f fd ["table", "account"] (spF ⟨K, mg⟩ f_asked) :=
  rf_ok (k := 2) (m := m_asked) F sc_asked (by decide) fun cdv A outer s H E om0 H0 v0 W hr ks => by
    have kx := ks.toKx
    exact (ss_cons (s_exp (r_call kx c_look_account (hr.mono (by decide)) (ra_cons (r_var (pv 0)) (ra_cons (r_var (pv 1)) ra_nil)))) (ss_one (s_ret (c_up (r_ix kx (c_op (r_meth kx c_Table_passed (hr.mono (by decide)) (r_var (pv 0)) (ra_cons (r_var (pv 1)) ra_nil))) r_int)))))
abbrev s_law_draws : Stmt := topS 29
theorem sc_law_draws : FnScope ["_law_script", "_law_many", "_law_row", "_law_seed", "_law_cell", "_law_rest", "_law_k"] ["_law_script", "_law_many"] (defScope s_law_draws) := ⟨rfl, rfl, rfl, by decide +kernel, rfl, by decide +kernel, by decide +kernel⟩
theorem ok_law_draws {f : Addr} {fd : FuncData} (F : Fun K "_law_draws" "_law_draws" s_law_draws f fd) (T : Tx K mg) : FnOk P w K mg base (L2.CX P w) 1 f fd ["_law_script", "_law_many"] (spF ⟨K, mg⟩ f_law_draws) :=
  rf_ok (k := 0) (m := m_law_draws) F sc_law_draws (by decide) fun cdv A outer s H E om0 H0 v0 W hr ks => by
    have kx := ks.toKx
    exact (ss_cons (s_own (i := 2) kx rfl (by first | exact Or.inl rfl | exact Or.inr rfl) (r_lst ra_nil)) (ss_cons (s_set (i := 3) kx rfl (by first | exact Or.inl rfl | exact Or.inr rfl) r_int) (ss_cons (s_forL ks (c_op (r_slL kx (r_var (pv 0)) ro_none (ro_some r_int))) (g_name (i := 4) kx.nd rfl (by first | exact Or.inl rfl | exact Or.inr rfl)) (ss_cons (s_set (i := 3) kx rfl (by first | exact Or.inl rfl | exact Or.inr rfl) (r_mod (r_add (r_add (r_mul (r_var (pv 3)) r_int) (r_mod (r_var (pv 4)) r_int)) r_int) r_int)) (ss_cons (s_set (i := 5) kx rfl (by first | exact Or.inl rfl | exact Or.inr rfl) (r_sub (r_var (pv 4)) (r_pow r_int r_int))) (ss_cons (s_if (t_lt (r_var (pv 5)) r_int) (ss_one (s_app (pv 2) (r_mod (r_var (pv 4)) r_int))) ss_nil) (ss_one (s_forR1 ks T.b_range (ra_cons r_int ra_nil) (g_name (i := 6) kx.nd rfl (by first | exact Or.inl rfl | exact Or.inr rfl)) (ss_one (s_if (t_gt (r_var (pv 5)) r_int) (ss_cons (s_app (pv 2) (r_mod (r_var (pv 5)) r_int)) (ss_one (s_set (i := 5) kx rfl (by first | exact Or.inl rfl | exact Or.inr rfl) (r_div (r_var (pv 5)) r_int)))) ss_nil)))))))) (ss_cons (s_forR1 ks T.b_range (ra_cons (r_var (pv 1)) ra_nil) (g_name (i := 6) kx.nd rfl (by first | exact Or.inl rfl | exact Or.inr rfl)) (ss_cons (s_set (i := 3) kx rfl (by first | exact Or.inl rfl | exact Or.inr rfl) (r_mod (r_add (r_add (r_add (r_mul (r_var (pv 3)) (r_var (pv 3))) (r_mul r_int (r_var (pv 3)))) (r_mul r_int (r_var (pv 6)))) r_int) r_int)) (ss_one (s_app (pv 2) (r_mod (r_div (r_var (pv 3)) r_int) r_int))))) (ss_one (s_ret (r_slL kx (r_var (pv 2)) ro_none (ro_some (r_var (pv 1))))))))))
abbrev s_law_whole : Stmt := topS 30
theorem sc_law_whole : FnScope ["_law_found"] ["_law_found"] (defScope s_law_whole) := ⟨rfl, rfl, rfl, by decide +kernel, rfl, by decide +kernel, by decide +kernel⟩
theorem ok_law_whole {f : Addr} {fd : FuncData} (F : Fun K "_law_whole" "_law_whole" s_law_whole f fd) (T : Tx K mg) : FnOk P w K mg base (L2.CX P w) 1 f fd ["_law_found"] (spF ⟨K, mg⟩ f_law_whole) :=
  rf_ok (k := 0) (m := m_law_whole) F sc_law_whole (by decide) fun cdv A outer s H E om0 H0 v0 W hr ks => by
    have kx := ks.toKx
    exact (ss_one (s_ret (c_up (r_and (r_isi kx (r_var (pv 0)) T.b_isinstance T.b_int (by decide +kernel)) (pe_one (r_not (r_isi kx (r_var (pv 0)) T.b_isinstance T.b_bool (by decide +kernel))))))))
abbrev s_law_wholes : Stmt := topS 31
theorem sc_law_wholes : FnScope ["_law_found", "_law_many", "_law_one"] ["_law_found", "_law_many"] (defScope s_law_wholes) := ⟨rfl, rfl, rfl, by decide +kernel, rfl, by decide +kernel, by decide +kernel⟩
theorem ok_law_wholes {f : Addr} {fd : FuncData} (F : Fun K "_law_wholes" "_law_wholes" s_law_wholes f fd) (T : Tx K mg) (c_law_whole : Cl P w ⟨K, mg⟩ base 1 "_law_whole" f_law_whole) : FnOk P w K mg base (L2.CX P w) 2 f fd ["_law_found", "_law_many"] (spF ⟨K, mg⟩ f_law_wholes) :=
  rf_ok (k := 1) (m := m_law_wholes) F sc_law_wholes (by decide) fun cdv A outer s H E om0 H0 v0 W hr ks => by
    have kx := ks.toKx
    exact (ss_cons (s_if (PW.pt (tw_or (t_not (t_val (r_isi kx (r_var (pv 0)) T.b_isinstance T.b_list (by decide +kernel)))) (pw_or1 (t_ne kx (r_len kx T.b_len (ra_cons (r_var (pv 0)) ra_nil)) (r_var (pv 1)))))) (ss_one (s_ret (c_up r_bl))) ss_nil) (ss_cons (s_forL ks (r_var (pv 0)) (g_name (i := 2) kx.nd rfl (by first | exact Or.inl rfl | exact Or.inr rfl)) (ss_one (s_if (t_not (t_val (c_op (r_call kx c_law_whole (hr.mono (by decide)) (ra_cons (r_var (pv 2)) ra_nil))))) (ss_one (s_ret (c_up r_bl))) ss_nil))) (ss_one (s_ret (c_up r_bl)))))
abbrev s_law_list : Stmt := topS 32
theorem sc_law_list : FnScope ["_law_found", "_law_due"] ["_law_found", "_law_due"] (defScope s_law_list) := ⟨rfl, rfl, rfl, by decide +kernel, rfl, by decide +kernel, by decide +kernel⟩
theorem ok_law_list {f : Addr} {fd : FuncData} (F : Fun K "_law_list" "_law_list" s_law_list f fd) (T : Tx K mg) (c_law_wholes : Cl P w ⟨K, mg⟩ base 2 "_law_wholes" f_law_wholes) : FnOk P w K mg base (L2.CX P w) 3 f fd ["_law_found", "_law_due"] (spF ⟨K, mg⟩ f_law_list) :=
  rf_ok (k := 2) (m := m_law_list) F sc_law_list (by decide) fun cdv A outer s H E om0 H0 v0 W hr ks => by
    have kx := ks.toKx
    exact (ss_one (s_ret (c_up (r_and (c_op (r_call kx c_law_wholes (hr.mono (by decide)) (ra_cons (r_var (pv 0)) (ra_cons (r_len kx T.b_len (ra_cons (r_var (pv 1)) ra_nil)) ra_nil)))) (pe_one (v_eq kx (r_var (pv 0)) (r_var (pv 1))))))))
abbrev s_law_lines : Stmt := topS 33
theorem sc_law_lines : FnScope ["_law_houses", "_law_house", "_law_draws_here", "_law_others", "_law_k", "_law_many", "_law_row", "_law_signer", "_law_line"] ["_law_houses", "_law_house", "_law_draws_here"] (defScope s_law_lines) := ⟨rfl, rfl, rfl, by decide +kernel, rfl, by decide +kernel, by decide +kernel⟩
theorem ok_law_lines {f : Addr} {fd : FuncData} (F : Fun K "_law_lines" "_law_lines" s_law_lines f fd) (T : Tx K mg) : FnOk P w K mg base (L2.CX P w) 1 f fd ["_law_houses", "_law_house", "_law_draws_here"] (spF ⟨K, mg⟩ f_law_lines) :=
  rf_ok (k := 0) (m := m_law_lines) F sc_law_lines (by decide) fun cdv A outer s H E om0 H0 v0 W hr ks => by
    have kx := ks.toKx
    exact (ss_cons (s_lcO (i := 3) kx rfl rfl lcR1_imp (pi_range1 rfl T.b_range (ra_cons (r_var (pv 0)) ra_nil)) (blkOk_by (own := [("_law_k", 4)]) (N := ["_law_houses", "_law_house", "_law_draws_here", "_law_others", "_law_k", "_law_many", "_law_row", "_law_signer", "_law_line"]) (sc := defScope s_law_lines) (by decide +kernel)) (fun _ _ _ _ _ => pg_name (i := 4) kx.nd rfl (Or.inl rfl)) (fun _ _ _ _ _ kx => (pts_one (t_ne kx (r_var (pv 4)) (r_var (pv 1))))) (fun _ _ _ _ _ kx => (r_var (pv 4))) (sw_true rfl rfl rfl (by decide +kernel))) (ss_cons (s_set (i := 5) kx rfl (by first | exact Or.inl rfl | exact Or.inr rfl) (r_add r_int (r_mod (r_ix kx (r_var (pv 2)) r_int) (r_min2 kx T.b_min (ra_cons r_int (ra_cons (r_len kx T.b_len (ra_cons (r_var (pv 3)) ra_nil)) ra_nil)))))) (ss_cons (s_own (i := 6) kx rfl (by first | exact Or.inl rfl | exact Or.inr rfl) (r_lst ra_nil)) (ss_cons (s_forR1 ks T.b_range (ra_cons (r_var (pv 5)) ra_nil) (g_name (i := 4) kx.nd rfl (by first | exact Or.inl rfl | exact Or.inr rfl)) (ss_cons (s_popAt (j := 7) kx rfl (by first | exact Or.inl rfl | exact Or.inr rfl) (pv 3) (r_mod (r_ix kx (r_var (pv 2)) (r_add r_int (r_var (pv 4)))) (r_len kx T.b_len (ra_cons (r_var (pv 3)) ra_nil)))) (ss_cons (s_set (i := 8) kx rfl (by first | exact Or.inl rfl | exact Or.inr rfl) (r_add r_int (r_mod (r_div (r_ix kx (r_var (pv 2)) (r_add r_int (r_var (pv 4)))) r_int) r_int))) (ss_cons (s_if (t_eq kx (r_mod (r_div (r_ix kx (r_var (pv 2)) r_int) r_int) r_int) r_int) (ss_one (s_set (i := 8) kx rfl (by first | exact Or.inl rfl | exact Or.inr rfl) (r_add r_int (r_mod (r_div (r_ix kx (r_var (pv 2)) (r_add r_int (r_var (pv 4)))) r_int) r_int)))) ss_nil) (ss_one (s_app (pv 6) (r_tup (ra_cons (r_var (pv 7)) (ra_cons (r_var (pv 8)) ra_nil))))))))) (ss_one (s_ret (c_up (r_tupc kx T.b_tuple (ra_cons (r_var (pv 6)) ra_nil)))))))))
abbrev s_law_cover : Stmt := topS 34
theorem sc_law_cover : FnScope ["_law_houses", "_law_draws_here", "_law_house", "_law_kind", "_law_by", "_law_most"] ["_law_houses", "_law_draws_here"] (defScope s_law_cover) := ⟨rfl, rfl, rfl, by decide +kernel, rfl, by decide +kernel, by decide +kernel⟩
theorem ok_law_cover {f : Addr} {fd : FuncData} (F : Fun K "_law_cover" "_law_cover" s_law_cover f fd) (T : Tx K mg) (c_law_lines : Cl P w ⟨K, mg⟩ base 1 "_law_lines" f_law_lines) : FnOk P w K mg base (L2.CX P w) 2 f fd ["_law_houses", "_law_draws_here"] (spF ⟨K, mg⟩ f_law_cover) :=
  rf_ok (k := 1) (m := m_law_cover) F sc_law_cover (by decide) fun cdv A outer s H E om0 H0 v0 W hr ks => by
    have kx := ks.toKx
    exact (ss_cons (s_set (i := 2) kx rfl (by first | exact Or.inl rfl | exact Or.inr rfl) (r_mod (r_ix kx (r_var (pv 1)) r_int) (r_var (pv 0)))) (ss_cons (s_set (i := 3) kx rfl (by first | exact Or.inl rfl | exact Or.inr rfl) (r_ix kx (c_op (r_lst (ra_cons r_str (ra_cons r_str ra_nil)))) (r_mod (r_ix kx (r_var (pv 1)) r_int) r_int))) (ss_cons (s_set (i := 4) kx rfl (by first | exact Or.inl rfl | exact Or.inr rfl) (r_mod (r_ix kx (r_var (pv 1)) r_int) r_int)) (ss_cons (s_if (t_eq kx (r_mod (r_div (r_ix kx (r_var (pv 1)) r_int) r_int) r_int) r_int) (ss_one (s_set (i := 4) kx rfl (by first | exact Or.inl rfl | exact Or.inr rfl) (r_mod (r_ix kx (r_var (pv 1)) r_int) r_int))) ss_nil) (ss_cons (s_if (t_eq kx (r_var (pv 3)) r_str) (ss_one (s_set (i := 4) kx rfl (by first | exact Or.inl rfl | exact Or.inr rfl) (r_ix kx (c_op (r_lst (ra_cons (r_add r_int (r_mod (r_ix kx (r_var (pv 1)) r_int) r_int)) (ra_cons r_int (ra_cons (r_add r_int (r_mod (r_ix kx (r_var (pv 1)) r_int) r_int)) ra_nil))))) (r_mod (r_div (r_ix kx (r_var (pv 1)) r_int) r_int) r_int)))) ss_nil) (ss_cons (s_set (i := 5) kx rfl (by first | exact Or.inl rfl | exact Or.inr rfl) (r_mod (r_ix kx (r_var (pv 1)) r_int) r_int)) (ss_one (s_ret (c_up (r_tup (ra_cons (r_var (pv 2)) (ra_cons (r_var (pv 3)) (ra_cons (r_var (pv 4)) (ra_cons (r_var (pv 5)) (ra_cons (c_op (r_call kx c_law_lines (hr.mono (by decide)) (ra_cons (r_var (pv 0)) (ra_cons (r_var (pv 2)) (ra_cons (c_op (r_slL kx (r_var (pv 1)) (ro_some r_int) (ro_some r_int))) ra_nil))))) ra_nil)))))))))))))))
abbrev s_law_rows : Stmt := topS 35
theorem sc_law_rows : FnScope ["_law_houses", "_law_draws_here", "_law_many", "_law_rows_here", "_law_k"] ["_law_houses", "_law_draws_here"] (defScope s_law_rows) := ⟨rfl, rfl, rfl, by decide +kernel, rfl, by decide +kernel, by decide +kernel⟩
theorem ok_law_rows {f : Addr} {fd : FuncData} (F : Fun K "_law_rows" "_law_rows" s_law_rows f fd) (T : Tx K mg) (c_law_cover : Cl P w ⟨K, mg⟩ base 2 "_law_cover" f_law_cover) : FnOk P w K mg base (L2.CX P w) 3 f fd ["_law_houses", "_law_draws_here"] (spF ⟨K, mg⟩ f_law_rows) :=
  rf_ok (k := 2) (m := m_law_rows) F sc_law_rows (by decide) fun cdv A outer s H E om0 H0 v0 W hr ks => by
    have kx := ks.toKx
    exact (ss_cons (s_if (t_eq kx (r_var (pv 0)) r_int) (ss_one (s_ret (r_lst ra_nil))) ss_nil) (ss_cons (s_set (i := 2) kx rfl (by first | exact Or.inl rfl | exact Or.inr rfl) (r_mod (r_ix kx (r_var (pv 1)) r_int) r_int)) (ss_cons (s_set (i := 3) kx rfl (by first | exact Or.inl rfl | exact Or.inr rfl) (c_op (r_lc kx lcR1_imp (pi_range1 rfl T.b_range (ra_cons (r_var (pv 2)) ra_nil)) (blkOk_by (own := [("_law_k", 4)]) (N := ["_law_houses", "_law_draws_here", "_law_many", "_law_rows_here", "_law_k"]) (sc := defScope s_law_rows) (by decide +kernel)) (fun _ _ _ _ _ => pg_name (i := 4) kx.nd rfl (Or.inl rfl)) (fun _ _ _ _ _ kx => ts_nil) (fun _ _ _ _ _ kx => (c_op (r_call kx c_law_cover (hr.mono (by decide)) (ra_cons (r_var (pv 0)) (ra_cons (c_op (r_slL kx (r_var (pv 1)) (ro_some (r_add r_int (r_mul r_int (r_var (pv 4))))) (ro_some (r_add r_int (r_mul r_int (r_var (pv 4))))))) ra_nil)))))))) (ss_cons (s_if (t_eq kx (r_mod (r_div (r_ix kx (r_var (pv 1)) r_int) r_int) r_int) r_int) (ss_one (s_set (i := 3) kx rfl (by first | exact Or.inl rfl | exact Or.inr rfl) (c_op (r_lc kx lcR1_imp (pi_range1 rfl T.b_range (ra_cons (r_var (pv 2)) ra_nil)) (blkOk_by (own := [("_law_k", 4)]) (N := ["_law_houses", "_law_draws_here", "_law_many", "_law_rows_here", "_law_k"]) (sc := defScope s_law_rows) (by decide +kernel)) (fun _ _ _ _ _ => pg_name (i := 4) kx.nd rfl (Or.inl rfl)) (fun _ _ _ _ _ kx => ts_nil) (fun _ _ _ _ _ kx => (r_ix kx (r_var (pv 3)) (r_div (r_var (pv 4)) r_int))))))) ss_nil) (ss_one (s_ret (c_up (r_var (pv 3)))))))))
abbrev s_law_losses : Stmt := topS 36
theorem sc_law_losses : FnScope ["_law_houses", "_law_draws_here", "_law_row", "_law_k", "_law_d"] ["_law_houses", "_law_draws_here"] (defScope s_law_losses) := ⟨rfl, rfl, rfl, by decide +kernel, rfl, by decide +kernel, by decide +kernel⟩
theorem ok_law_losses {f : Addr} {fd : FuncData} (F : Fun K "_law_losses" "_law_losses" s_law_losses f fd) (T : Tx K mg) : FnOk P w K mg base (L2.CX P w) 1 f fd ["_law_houses", "_law_draws_here"] (spF ⟨K, mg⟩ f_law_losses) :=
  rf_ok (k := 0) (m := m_law_losses) F sc_law_losses (by decide) fun cdv A outer s H E om0 H0 v0 W hr ks => by
    have kx := ks.toKx
    exact (ss_cons (s_own (i := 2) kx rfl (by first | exact Or.inl rfl | exact Or.inr rfl) (r_lst ra_nil)) (ss_cons (s_forR1 ks T.b_range (ra_cons (r_var (pv 0)) ra_nil) (g_name (i := 3) kx.nd rfl (by first | exact Or.inl rfl | exact Or.inr rfl)) (ss_cons (s_set (i := 4) kx rfl (by first | exact Or.inl rfl | exact Or.inr rfl) (r_ix kx (r_var (pv 1)) (r_add r_int (r_var (pv 3))))) (ss_one (s_app (pv 2) (r_ix kx (c_op (r_lst (ra_cons r_int (ra_cons (r_mod (r_var (pv 4)) r_int) (ra_cons (r_mod (r_var (pv 4)) r_int) (ra_cons (r_mod (r_var (pv 4)) r_int) (ra_cons (r_mod (r_mul (r_var (pv 4)) r_int) r_int) ra_nil))))))) (r_mod (r_add (r_ix kx (r_var (pv 1)) r_int) (r_div (r_var (pv 4)) r_int)) r_int)))))) (ss_one (s_retO (pv 2)))))
abbrev s_law_made : Stmt := topS 37
theorem sc_law_made : FnScope ["_law_draws_here", "_law_houses"] ["_law_draws_here"] (defScope s_law_made) := ⟨rfl, rfl, rfl, by decide +kernel, rfl, by decide +kernel, by decide +kernel⟩
theorem ok_law_made {f : Addr} {fd : FuncData} (F : Fun K "_law_made" "_law_made" s_law_made f fd) (T : Tx K mg) (c_law_losses : Cl P w ⟨K, mg⟩ base 1 "_law_losses" f_law_losses) (c_law_rows : Cl P w ⟨K, mg⟩ base 3 "_law_rows" f_law_rows) : FnOk P w K mg base (L2.CX P w) 4 f fd ["_law_draws_here"] (spF ⟨K, mg⟩ f_law_made) :=
  rf_ok (k := 3) (m := m_law_made) F sc_law_made (by decide) fun cdv A outer s H E om0 H0 v0 W hr ks => by
    have kx := ks.toKx
    exact (ss_cons (s_set (i := 1) kx rfl (by first | exact Or.inl rfl | exact Or.inr rfl) (r_add r_int (r_mod (r_add (r_ix kx (r_var (pv 0)) r_int) r_int) r_int))) (ss_one (s_ret (c_up (r_tup (ra_cons (r_var (pv 1)) (ra_cons (c_op (r_call kx c_law_rows (hr.mono (by decide)) (ra_cons (r_var (pv 1)) (ra_cons (c_op (r_slL kx (r_var (pv 0)) (ro_some r_int) (ro_some r_int))) ra_nil)))) (ra_cons (c_op (r_call kx c_law_losses (hr.mono (by decide)) (ra_cons (r_var (pv 1)) (ra_cons (c_op (r_slL kx (r_var (pv 0)) (ro_some r_int) (ro_some r_int))) ra_nil)))) ra_nil))))))))
abbrev s_law_split : Stmt := topS 38
theorem sc_law_split : FnScope ["_law_lines_here", "_law_most", "_law_borne", "_law_rows_here", "_law_crown", "_law_best", "_law_at", "_law_here"] ["_law_lines_here", "_law_most"] (defScope s_law_split) := ⟨rfl, rfl, rfl, by decide +kernel, rfl, by decide +kernel, by decide +kernel⟩
theorem ok_law_split {f : Addr} {fd : FuncData} (F : Fun K "_law_split" "_law_split" s_law_split f fd) (T : Tx K mg) : FnOk P w K mg base (L2.CX P w) 1 f fd ["_law_lines_here", "_law_most"] (spF ⟨K, mg⟩ f_law_split) :=
  rf_ok (k := 0) (m := m_law_split) F sc_law_split (by decide) fun cdv A outer s H E om0 H0 v0 W hr ks => by
    have kx := ks.toKx
    exact (ss_cons (s_own (i := 2) kx rfl (by first | exact Or.inl rfl | exact Or.inr rfl) (r_rep (c_op (r_lst (ra_cons r_int ra_nil))) (r_len kx T.b_len (ra_cons (r_var (pv 0)) ra_nil)))) (ss_cons (s_own (i := 3) kx rfl (by first | exact Or.inl rfl | exact Or.inr rfl) (r_lst (ra_cons (c_op (r_listc kx T.b_list (ra_cons (r_var (pv 2)) ra_nil))) ra_nil))) (ss_cons (s_forR1 ks T.b_range (ra_cons (r_var (pv 1)) ra_nil) (g_name (i := 4) kx.nd rfl (by first | exact Or.inl rfl | exact Or.inr rfl)) (ss_cons (s_set (i := 5) kx rfl (by first | exact Or.inl rfl | exact Or.inr rfl) r_int) (ss_cons (s_forR1 ks T.b_range (ra_cons (r_len kx T.b_len (ra_cons (r_var (pv 0)) ra_nil)) ra_nil) (g_name (i := 6) kx.nd rfl (by first | exact Or.inl rfl | exact Or.inr rfl)) (ss_cons (s_set (i := 7) kx rfl (by first | exact Or.inl rfl | exact Or.inr rfl) (r_mul (r_add (r_ix kx (r_var (pv 2)) (r_var (pv 6))) r_int) (r_ix kx (r_ix kx (r_var (pv 0)) (r_var (pv 5))) r_int))) (ss_one (s_if (t_lt (r_var (pv 7)) (r_mul (r_add (r_ix kx (r_var (pv 2)) (r_var (pv 5))) r_int) (r_ix kx (r_ix kx (r_var (pv 0)) (r_var (pv 6))) r_int))) (ss_one (s_set (i := 5) kx rfl (by first | exact Or.inl rfl | exact Or.inr rfl) (r_var (pv 6)))) ss_nil)))) (ss_cons (s_it (pv 2) (r_var (pv 5)) (r_add (r_ix kx (r_var (pv 2)) (r_var (pv 5))) r_int)) (ss_one (s_app (pv 3) (c_op (r_listc kx T.b_list (ra_cons (r_var (pv 2)) ra_nil))))))))) (ss_one (s_retO (pv 3))))))
abbrev s_law_splits : Stmt := topS 39
theorem sc_law_splits : FnScope ["_law_covers", "_law_cover_here"] ["_law_covers"] (defScope s_law_splits) := ⟨rfl, rfl, rfl, by decide +kernel, rfl, by decide +kernel, by decide +kernel⟩
theorem ok_law_splits {f : Addr} {fd : FuncData} (F : Fun K "_law_splits" "_law_splits" s_law_splits f fd) (T : Tx K mg) (c_law_split : Cl P w ⟨K, mg⟩ base 1 "_law_split" f_law_split) : FnOk P w K mg base (L2.CX P w) 2 f fd ["_law_covers"] (spF ⟨K, mg⟩ f_law_splits) :=
  rf_ok (k := 1) (m := m_law_splits) F sc_law_splits (by decide) fun cdv A outer s H E om0 H0 v0 W hr ks => by
    have kx := ks.toKx
    exact (ss_one (s_ret (r_lc kx lcL_imp (pi_list (r_var (pv 0))) (blkOk_by (own := [("_law_cover_here", 1)]) (N := ["_law_covers", "_law_cover_here"]) (sc := defScope s_law_splits) (by decide +kernel)) (fun _ _ _ _ _ => pg_name (i := 1) kx.nd rfl (Or.inl rfl)) (fun _ _ _ _ _ kx => ts_nil) (fun _ _ _ _ _ kx => (c_op (r_call kx c_law_split (hr.mono (by decide)) (ra_cons (r_ix kx (r_var (pv 1)) r_int) (ra_cons (r_ix kx (r_var (pv 1)) r_int) ra_nil))))))))
abbrev s_law_loads : Stmt := topS 40
theorem sc_law_loads : FnScope ["_law_covers", "_law_losses_here", "_law_splits_here", "_law_account_here", "_law_row", "_law_at", "_law_lines_here", "_law_mine", "_law_k", "_law_signer"] ["_law_covers", "_law_losses_here", "_law_splits_here", "_law_account_here"] (defScope s_law_loads) := ⟨rfl, rfl, rfl, by decide +kernel, rfl, by decide +kernel, by decide +kernel⟩
theorem ok_law_loads {f : Addr} {fd : FuncData} (F : Fun K "_law_loads" "_law_loads" s_law_loads f fd) (T : Tx K mg) : FnOk P w K mg base (L2.CX P w) 1 f fd ["_law_covers", "_law_losses_here", "_law_splits_here", "_law_account_here"] (spF ⟨K, mg⟩ f_law_loads) :=
  rf_ok (k := 0) (m := m_law_loads) F sc_law_loads (by decide) fun cdv A outer s H E om0 H0 v0 W hr ks => by
    have kx := ks.toKx
    exact (ss_cons (s_own (i := 4) kx rfl (by first | exact Or.inl rfl | exact Or.inr rfl) (r_listc kx T.b_list (ra_cons (r_var (pv 1)) ra_nil))) (ss_cons (s_forR1 ks T.b_range (ra_cons (r_len kx T.b_len (ra_cons (r_var (pv 0)) ra_nil)) ra_nil) (g_name (i := 5) kx.nd rfl (by first | exact Or.inl rfl | exact Or.inr rfl)) (ss_cons (s_set (i := 6) kx rfl (by first | exact Or.inl rfl | exact Or.inr rfl) (r_ix kx (r_ix kx (r_var (pv 0)) (r_var (pv 5))) r_int)) (ss_cons (s_set (i := 7) kx rfl (by first | exact Or.inl rfl | exact Or.inr rfl) (r_ix kx (r_ix kx (r_var (pv 2)) (r_var (pv 5))) (r_ix kx (r_var (pv 3)) (r_var (pv 5))))) (ss_one (s_forR1 ks T.b_range (ra_cons (r_len kx T.b_len (ra_cons (r_var (pv 6)) ra_nil)) ra_nil) (g_name (i := 8) kx.nd rfl (by first | exact Or.inl rfl | exact Or.inr rfl)) (ss_cons (s_set (i := 9) kx rfl (by first | exact Or.inl rfl | exact Or.inr rfl) (r_ix kx (r_ix kx (r_var (pv 6)) (r_var (pv 8))) r_int)) (ss_one (s_it (pv 4) (r_var (pv 9)) (r_add (r_ix kx (r_var (pv 4)) (r_var (pv 9))) (r_ix kx (r_var (pv 7)) (r_var (pv 8)))))))))))) (ss_one (s_retO (pv 4)))))
abbrev s_law_take : Stmt := topS 41
theorem sc_law_take : FnScope ["_law_kind", "_law_by", "_law_most", "_law_reach"] ["_law_kind", "_law_by", "_law_most", "_law_reach"] (defScope s_law_take) := ⟨rfl, rfl, rfl, by decide +kernel, rfl, by decide +kernel, by decide +kernel⟩
theorem ok_law_take {f : Addr} {fd : FuncData} (F : Fun K "_law_take" "_law_take" s_law_take f fd) (T : Tx K mg) : FnOk P w K mg base (L2.CX P w) 1 f fd ["_law_kind", "_law_by", "_law_most", "_law_reach"] (spF ⟨K, mg⟩ f_law_take) :=
  rf_ok (k := 0) (m := m_law_take) F sc_law_take (by decide) fun cdv A outer s H E om0 H0 v0 W hr ks => by
    have kx := ks.toKx
    exact (ss_cons (s_if (t_eq kx (r_var (pv 0)) r_str) (ss_one (s_ret (c_up (r_min2 kx T.b_min (ra_cons (r_var (pv 2)) (ra_cons (r_div (r_mul (r_var (pv 3)) (r_var (pv 1))) r_int) ra_nil)))))) ss_nil) (ss_cons (s_if (t_le (r_var (pv 3)) (r_var (pv 1))) (ss_one (s_ret (c_up r_int))) ss_nil) (ss_one (s_ret (c_up (r_min2 kx T.b_min (ra_cons (r_var (pv 2)) (ra_cons (r_sub (r_var (pv 3)) (r_var (pv 1))) ra_nil))))))))
abbrev s_law_passed : Stmt := topS 42
theorem sc_law_passed : FnScope ["_law_covers", "_law_losses_here", "_law_splits_here", "_law_account_here", "_law_left", "_law_asks", "_law_house", "_law_kind", "_law_by", "_law_most", "_law_lines_here", "_law_crowns"] ["_law_covers", "_law_losses_here", "_law_splits_here", "_law_account_here"] (defScope s_law_passed) := ⟨rfl, rfl, rfl, by decide +kernel, rfl, by decide +kernel, by decide +kernel⟩
theorem ok_law_passed {f : Addr} {fd : FuncData} (F : Fun K "_law_passed" "_law_passed" s_law_passed f fd) (T : Tx K mg) (c_law_loads : Cl P w ⟨K, mg⟩ base 1 "_law_loads" f_law_loads) (c_law_take : Cl P w ⟨K, mg⟩ base 1 "_law_take" f_law_take) : FnOk P w K mg base (L2.CX P w) 2 f fd ["_law_covers", "_law_losses_here", "_law_splits_here", "_law_account_here"] (spF ⟨K, mg⟩ f_law_passed) :=
  rf_ok (k := 1) (m := m_law_passed) F sc_law_passed (by decide) fun cdv A outer s H E om0 H0 v0 W hr ks => by
    have kx := ks.toKx
    exact (ss_cons (s_own (i := 4) kx rfl (by first | exact Or.inl rfl | exact Or.inr rfl) (r_call kx c_law_loads (hr.mono (by decide)) (ra_cons (r_var (pv 0)) (ra_cons (r_var (pv 1)) (ra_cons (r_var (pv 2)) (ra_cons (r_var (pv 3)) ra_nil)))))) (ss_cons (s_own (i := 5) kx rfl (by first | exact Or.inl rfl | exact Or.inr rfl) (r_lst ra_nil)) (ss_cons (s_forL ks (r_var (pv 0)) (g_tup kx (gs_cons (g_name (i := 6) kx.nd rfl (by first | exact Or.inl rfl | exact Or.inr rfl)) (gs_cons (g_name (i := 7) kx.nd rfl (by first | exact Or.inl rfl | exact Or.inr rfl)) (gs_cons (g_name (i := 8) kx.nd rfl (by first | exact Or.inl rfl | exact Or.inr rfl)) (gs_cons (g_name (i := 9) kx.nd rfl (by first | exact Or.inl rfl | exact Or.inr rfl)) (gs_cons (g_name (i := 10) kx.nd rfl (by first | exact Or.inl rfl | exact Or.inr rfl)) gs_nil)))))) (ss_cons (s_set (i := 11) kx rfl (by first | exact Or.inl rfl | exact Or.inr rfl) (c_op (r_call kx c_law_take (hr.mono (by decide)) (ra_cons (r_var (pv 7)) (ra_cons (r_var (pv 8)) (ra_cons (r_var (pv 9)) (ra_cons (r_ix kx (r_var (pv 4)) (r_var (pv 6))) ra_nil))))))) (ss_cons (s_it (pv 4) (r_var (pv 6)) (r_sub (r_ix kx (r_var (pv 4)) (r_var (pv 6))) (r_var (pv 11)))) (ss_one (s_app (pv 5) (r_var (pv 11))))))) (ss_cold 4 (ss_cold 5 (ss_one (s_ret (c_up (r_tup (ra_cons (r_var (pv 5)) (ra_cons (r_var (pv 4)) ra_nil)))))))))))
abbrev s_law_account : Stmt := topS 43
theorem sc_law_account : FnScope ["_law_covers", "_law_draws_here", "_law_at"] ["_law_covers", "_law_draws_here"] (defScope s_law_account) := ⟨rfl, rfl, rfl, by decide +kernel, rfl, by decide +kernel, by decide +kernel⟩
theorem ok_law_account {f : Addr} {fd : FuncData} (F : Fun K "_law_account" "_law_account" s_law_account f fd) (T : Tx K mg) : FnOk P w K mg base (L2.CX P w) 1 f fd ["_law_covers", "_law_draws_here"] (spF ⟨K, mg⟩ f_law_account) :=
  rf_ok (k := 0) (m := m_law_account) F sc_law_account (by decide) fun cdv A outer s H E om0 H0 v0 W hr ks => by
    have kx := ks.toKx
    exact (ss_one (s_ret (r_lc kx lcR1_imp (pi_range1 rfl T.b_range (ra_cons (r_len kx T.b_len (ra_cons (r_var (pv 0)) ra_nil)) ra_nil)) (blkOk_by (own := [("_law_at", 2)]) (N := ["_law_covers", "_law_draws_here", "_law_at"]) (sc := defScope s_law_account) (by decide +kernel)) (fun _ _ _ _ _ => pg_name (i := 2) kx.nd rfl (Or.inl rfl)) (fun _ _ _ _ _ kx => ts_nil) (fun _ _ _ _ _ kx => (r_mod (r_ix kx (r_var (pv 1)) (r_var (pv 2))) (r_add (r_ix kx (r_ix kx (r_var (pv 0)) (r_var (pv 2))) r_int) r_int))))))
abbrev s_law : Stmt := topS 44
theorem sc_law : FnScope ["_law_script", "_law_draws_here", "_law_houses", "_law_covers", "_law_losses_here", "_law_cover_here", "_law_account_here", "_law_due", "_law_handed", "_law_found"] ["_law_script"] (defScope s_law) := ⟨rfl, rfl, rfl, by decide +kernel, rfl, by decide +kernel, by decide +kernel⟩
theorem ok_law {f : Addr} {fd : FuncData} (F : Fun K "law" "law" s_law f fd) (T : Tx K mg) (c_Table___init__ : Clc P w ⟨K, mg⟩ base 3 "Table" f_Table___init__) (c_law_account : Cl P w ⟨K, mg⟩ base 1 "_law_account" f_law_account) (c_law_draws : Cl P w ⟨K, mg⟩ base 1 "_law_draws" f_law_draws) (c_law_list : Cl P w ⟨K, mg⟩ base 3 "_law_list" f_law_list) (c_law_made : Cl P w ⟨K, mg⟩ base 4 "_law_made" f_law_made) (c_law_passed : Cl P w ⟨K, mg⟩ base 2 "_law_passed" f_law_passed) (c_law_splits : Cl P w ⟨K, mg⟩ base 2 "_law_splits" f_law_splits) (c_asked : Cl P w ⟨K, mg⟩ base 3 "asked" f_asked) : FnOk P w K mg base (L2.CX P w) 5 f fd ["_law_script"] (spF ⟨K, mg⟩ f_law) :=
  rf_ok (k := 4) (m := m_law) F sc_law (by decide) fun cdv A outer s H E om0 H0 v0 W hr ks => by
    have kx := ks.toKx
    exact (ss_cons (s_set (i := 1) kx rfl (by first | exact Or.inl rfl | exact Or.inr rfl) (c_op (r_call kx c_law_draws (hr.mono (by decide)) (ra_cons (r_var (pv 0)) (ra_cons r_int ra_nil))))) (ss_cons (s_unp (c_op (r_call kx c_law_made (hr.mono (by decide)) (ra_cons (r_var (pv 1)) ra_nil))) (g_tup kx (gs_cons (g_name (i := 2) kx.nd rfl (by first | exact Or.inl rfl | exact Or.inr rfl)) (gs_cons (g_name (i := 3) kx.nd rfl (by first | exact Or.inl rfl | exact Or.inr rfl)) (gs_cons (g_name (i := 4) kx.nd rfl (by first | exact Or.inl rfl | exact Or.inr rfl)) gs_nil))))) (ss_cons (s_if (PW.pt (tw_and (t_gt (r_var (pv 2)) r_int) (pw_and1 (t_eq kx (r_mod (r_ix kx (r_var (pv 1)) r_int) r_int) r_int)))) (ss_one (s_lc (i := 3) kx rfl rfl lcL_imp (pi_list (r_var (pv 3))) (blkOk_by (own := [("_law_cover_here", 5)]) (N := ["_law_script", "_law_draws_here", "_law_houses", "_law_covers", "_law_losses_here", "_law_cover_here", "_law_account_here", "_law_due", "_law_handed", "_law_found"]) (sc := defScope s_law) (by decide +kernel)) (fun _ _ _ _ _ => pg_name (i := 5) kx.nd rfl (Or.inl rfl)) (fun _ _ _ _ _ kx => ts_nil) (fun _ _ _ _ _ kx => (r_tup (ra_cons r_int (ra_cons r_str (ra_cons (r_ix kx (r_var (pv 5)) r_int) (ra_cons (r_ix kx (r_var (pv 5)) r_int) (ra_cons (r_tup (ra_cons (r_tup (ra_cons (r_add r_int (r_mod (r_ix kx (r_var (pv 5)) r_int) (r_sub (r_var (pv 2)) r_int))) (ra_cons r_int ra_nil))) ra_nil)) ra_nil))))))) (sw_true rfl rfl rfl (by decide +kernel)))) ss_nil) (ss_cons (s_set (i := 6) kx rfl (by first | exact Or.inl rfl | exact Or.inr rfl) (c_op (r_call kx c_law_account (hr.mono (by decide)) (ra_cons (r_var (pv 3)) (ra_cons (c_op (r_slL kx (r_var (pv 1)) (ro_some r_int) (ro_some r_int))) ra_nil))))) (ss_cons (s_set (i := 7) kx rfl (by first | exact Or.inl rfl | exact Or.inr rfl) (r_ix kx (c_op (r_call kx c_law_passed (hr.mono (by decide)) (ra_cons (r_var (pv 3)) (ra_cons (r_var (pv 4)) (ra_cons (c_op (r_call kx c_law_splits (hr.mono (by decide)) (ra_cons (r_var (pv 3)) ra_nil))) (ra_cons (r_var (pv 6)) ra_nil)))))) r_int)) (ss_cons (s_set (i := 8) kx rfl (by first | exact Or.inl rfl | exact Or.inr rfl) (c_op (r_listc kx T.b_list (ra_cons (r_var (pv 6)) ra_nil)))) (ss_cons (s_set (i := 9) kx rfl (by first | exact Or.inl rfl | exact Or.inr rfl) (c_op (r_call kx c_asked (hr.mono (by decide)) (ra_cons (c_op (r_make kx c_Table___init__ (hr.mono (by decide)) (ra_cons (r_var (pv 2)) (ra_cons (r_var (pv 3)) (ra_cons (r_var (pv 4)) ra_nil))))) (ra_cons (r_var (pv 8)) ra_nil))))) (ss_one (s_ret (c_up (r_and (v_eq kx (r_var (pv 8)) (r_var (pv 6))) (pe_one (c_op (r_call kx c_law_list (hr.mono (by decide)) (ra_cons (r_var (pv 9)) (ra_cons (r_var (pv 7)) ra_nil))))))))))))))))
end
end RC
set_option Elab.async false
set_option linter.all false
set_option maxRecDepth 100000
set_option maxHeartbeats 4000000
namespace RC
open PySem PySem.Spec PyProof.Rows L2
def spLaw (K : PySem.W.Frag) : Sp := fun vs H Q _ => ∃ (a : Addr) (ns : List Int), vs = [.ref a] ∧ SqL K H a (ns.map V.int) ∧ ns.length ≤ 63 ∧ ∀ H', Q (.bl true) H'
theorem law_sp {K : PySem.W.Frag} {mg : Str → Option Value} (vs : List V) (H : Hp) (Q : VK) (E : XK) (h : spLaw K vs H Q E) : spF ⟨K, mg⟩ f_law vs H Q E := by
  obtain ⟨a, ns, rfl, hS, hl, q⟩ := h
  refine ⟨fun _ => none, [.fz (.scr ns)], fun a l h => (nomatch h), fun a l h => (nomatch h), ⟨_, _, rfl, ?_, rfl⟩, ?_⟩
  · show Hd _ _ _ _
    unfold Hd
    exact ⟨a, rfl, hS⟩
  · rw [law_true ns hl]
    intro v om' H' _ _ ro _
    have : v = .bl true := by simpa [ROk, Hd] using ro
    subst this
    exact q H'
theorem all_mk {l : PySem.W.OpenLaw} {w : World} {K : PySem.W.Frag} {h : Heap} {mg : Str → Option Value} {fa : Addr} {tk_MOST_SIGNERS : Tok} {tk_MOST_HOUSES : Tok} {tk_MOST_LINE : Tok} {tk_MOST_POINT : Tok} {tk_MOST : Tok} {C_BadHouses : Addr} {tk_MOST_COVERS : Tok} {C_BadCover : Addr} {C_BadLosses : Addr} {tk_MOST_LOSS : Tok} {C_NoHouse : Addr} {C_BadAccount : Addr} {C_Table : Addr} {f_are_lines_ : Addr} {od0 an0 : Option Addr} {sl0 : Array (Option Value)} {oc0 kV0 dc0 pm0 cd0 ct0 : Value} {f_foremost_ : Addr} {od1 an1 : Option Addr} {sl1 : Array (Option Value)} {oc1 kV1 dc1 pm1 cd1 ct1 : Value} {f_grown_parts_ : Addr} {od2 an2 : Option Addr} {sl2 : Array (Option Value)} {oc2 kV2 dc2 pm2 cd2 ct2 : Value} {f_is_by_ : Addr} {od3 an3 : Option Addr} {sl3 : Array (Option Value)} {oc3 kV3 dc3 pm3 cd3 ct3 : Value} {f_is_cover_ : Addr} {od4 an4 : Option Addr} {sl4 : Array (Option Value)} {oc4 kV4 dc4 pm4 cd4 ct4 : Value} {f_taken_ : Addr} {od5 an5 : Option Addr} {sl5 : Array (Option Value)} {oc5 kV5 dc5 pm5 cd5 ct5 : Value} {f_look_houses_ : Addr} {od6 an6 : Option Addr} {sl6 : Array (Option Value)} {oc6 kV6 dc6 pm6 cd6 ct6 : Value} {f_Table___init___ : Addr} {od7 an7 : Option Addr} {sl7 : Array (Option Value)} {oc7 kV7 dc7 pm7 cd7 ct7 : Value} {f_Table_houses_ : Addr} {od8 an8 : Option Addr} {sl8 : Array (Option Value)} {oc8 kV8 dc8 pm8 cd8 ct8 : Value} {f_Table_covers_ : Addr} {od9 an9 : Option Addr} {sl9 : Array (Option Value)} {oc9 kV9 dc9 pm9 cd9 ct9 : Value} {f_Table_losses_ : Addr} {od10 an10 : Option Addr} {sl10 : Array (Option Value)} {oc10 kV10 dc10 pm10 cd10 ct10 : Value} {f_Table_mosts_ : Addr} {od11 an11 : Option Addr} {sl11 : Array (Option Value)} {oc11 kV11 dc11 pm11 cd11 ct11 : Value} {f_look_house_ : Addr} {od12 an12 : Option Addr} {sl12 : Array (Option Value)} {oc12 kV12 dc12 pm12 cd12 ct12 : Value} {f_Table_more_ : Addr} {od13 an13 : Option Addr} {sl13 : Array (Option Value)} {oc13 kV13 dc13 pm13 cd13 ct13 : Value} {f_Table_loads_ : Addr} {od14 an14 : Option Addr} {sl14 : Array (Option Value)} {oc14 kV14 dc14 pm14 cd14 ct14 : Value} {f_Table_passed_ : Addr} {od15 an15 : Option Addr} {sl15 : Array (Option Value)} {oc15 kV15 dc15 pm15 cd15 ct15 : Value} {f_look_account_ : Addr} {od16 an16 : Option Addr} {sl16 : Array (Option Value)} {oc16 kV16 dc16 pm16 cd16 ct16 : Value} {f_asked_ : Addr} {od17 an17 : Option Addr} {sl17 : Array (Option Value)} {oc17 kV17 dc17 pm17 cd17 ct17 : Value} {f_law_draws_ : Addr} {od18 an18 : Option Addr} {sl18 : Array (Option Value)} {oc18 kV18 dc18 pm18 cd18 ct18 : Value} {f_law_whole_ : Addr} {od19 an19 : Option Addr} {sl19 : Array (Option Value)} {oc19 kV19 dc19 pm19 cd19 ct19 : Value} {f_law_wholes_ : Addr} {od20 an20 : Option Addr} {sl20 : Array (Option Value)} {oc20 kV20 dc20 pm20 cd20 ct20 : Value} {f_law_list_ : Addr} {od21 an21 : Option Addr} {sl21 : Array (Option Value)} {oc21 kV21 dc21 pm21 cd21 ct21 : Value} {f_law_lines_ : Addr} {od22 an22 : Option Addr} {sl22 : Array (Option Value)} {oc22 kV22 dc22 pm22 cd22 ct22 : Value} {f_law_cover_ : Addr} {od23 an23 : Option Addr} {sl23 : Array (Option Value)} {oc23 kV23 dc23 pm23 cd23 ct23 : Value} {f_law_rows_ : Addr} {od24 an24 : Option Addr} {sl24 : Array (Option Value)} {oc24 kV24 dc24 pm24 cd24 ct24 : Value} {f_law_losses_ : Addr} {od25 an25 : Option Addr} {sl25 : Array (Option Value)} {oc25 kV25 dc25 pm25 cd25 ct25 : Value} {f_law_made_ : Addr} {od26 an26 : Option Addr} {sl26 : Array (Option Value)} {oc26 kV26 dc26 pm26 cd26 ct26 : Value} {f_law_split_ : Addr} {od27 an27 : Option Addr} {sl27 : Array (Option Value)} {oc27 kV27 dc27 pm27 cd27 ct27 : Value} {f_law_splits_ : Addr} {od28 an28 : Option Addr} {sl28 : Array (Option Value)} {oc28 kV28 dc28 pm28 cd28 ct28 : Value} {f_law_loads_ : Addr} {od29 an29 : Option Addr} {sl29 : Array (Option Value)} {oc29 kV29 dc29 pm29 cd29 ct29 : Value} {f_law_take_ : Addr} {od30 an30 : Option Addr} {sl30 : Array (Option Value)} {oc30 kV30 dc30 pm30 cd30 ct30 : Value} {f_law_passed_ : Addr} {od31 an31 : Option Addr} {sl31 : Array (Option Value)} {oc31 kV31 dc31 pm31 cd31 ct31 : Value} {f_law_account_ : Addr} {od32 an32 : Option Addr} {sl32 : Array (Option Value)} {oc32 kV32 dc32 pm32 cd32 ct32 : Value} {f_law_ : Addr} {od33 an33 : Option Addr} {sl33 : Array (Option Value)} {oc33 kV33 dc33 pm33 cd33 ct33 : Value} (X : K.In h) (G : h.Ns mainGlobals mg) (hfa : mg "law" = some (.ref fa))
  (zb_bool : PySem.W.nsIn K mainGlobals "bool" = some none)
  (zb_int : PySem.W.nsIn K mainGlobals "int" = some none)
  (zb_isinstance : PySem.W.nsIn K mainGlobals "isinstance" = some none)
  (zb_len : PySem.W.nsIn K mainGlobals "len" = some none)
  (zb_list : PySem.W.nsIn K mainGlobals "list" = some none)
  (zb_max : PySem.W.nsIn K mainGlobals "max" = some none)
  (zb_min : PySem.W.nsIn K mainGlobals "min" = some none)
  (zb_range : PySem.W.nsIn K mainGlobals "range" = some none)
  (zb_tuple : PySem.W.nsIn K mainGlobals "tuple" = some none)
  (zc_MOST_SIGNERS : PySem.W.nsIn K mainGlobals "MOST_SIGNERS" = some (some (.int 4 tk_MOST_SIGNERS)))
  (zc_MOST_HOUSES : PySem.W.nsIn K mainGlobals "MOST_HOUSES" = some (some (.int 6 tk_MOST_HOUSES)))
  (zc_MOST_LINE : PySem.W.nsIn K mainGlobals "MOST_LINE" = some (some (.int 20 tk_MOST_LINE)))
  (zc_MOST_POINT : PySem.W.nsIn K mainGlobals "MOST_POINT" = some (some (.int 200 tk_MOST_POINT)))
  (zc_MOST : PySem.W.nsIn K mainGlobals "MOST" = some (some (.int 24 tk_MOST)))
  (zg_BadHouses : PySem.W.nsIn K mainGlobals "BadHouses" = some (some (.ref C_BadHouses)))
  (zx_BadHouses : PySem.W.excIn K C_BadHouses [.type "ValueError", .type "Exception", .type "BaseException", .type "object"] "ValueError.__new__" = true)
  (zk_BadHouses : PySem.W.keepIn K (.ref C_BadHouses) = true)
  (zs_BadHouses : PySem.W.subIn K (.ref C_BadHouses) (.type "BaseException") = some true)
  (zt_BadHouses : PySem.W.typeIn K (.ref C_BadHouses) = some (.type "type"))
  (zc_MOST_COVERS : PySem.W.nsIn K mainGlobals "MOST_COVERS" = some (some (.int 10 tk_MOST_COVERS)))
  (zg_BadCover : PySem.W.nsIn K mainGlobals "BadCover" = some (some (.ref C_BadCover)))
  (zx_BadCover : PySem.W.excIn K C_BadCover [.type "ValueError", .type "Exception", .type "BaseException", .type "object"] "ValueError.__new__" = true)
  (zk_BadCover : PySem.W.keepIn K (.ref C_BadCover) = true)
  (zs_BadCover : PySem.W.subIn K (.ref C_BadCover) (.type "BaseException") = some true)
  (zt_BadCover : PySem.W.typeIn K (.ref C_BadCover) = some (.type "type"))
  (zg_BadLosses : PySem.W.nsIn K mainGlobals "BadLosses" = some (some (.ref C_BadLosses)))
  (zx_BadLosses : PySem.W.excIn K C_BadLosses [.type "ValueError", .type "Exception", .type "BaseException", .type "object"] "ValueError.__new__" = true)
  (zk_BadLosses : PySem.W.keepIn K (.ref C_BadLosses) = true)
  (zs_BadLosses : PySem.W.subIn K (.ref C_BadLosses) (.type "BaseException") = some true)
  (zt_BadLosses : PySem.W.typeIn K (.ref C_BadLosses) = some (.type "type"))
  (zc_MOST_LOSS : PySem.W.nsIn K mainGlobals "MOST_LOSS" = some (some (.int 9999 tk_MOST_LOSS)))
  (zg_NoHouse : PySem.W.nsIn K mainGlobals "NoHouse" = some (some (.ref C_NoHouse)))
  (zx_NoHouse : PySem.W.excIn K C_NoHouse [.type "ValueError", .type "Exception", .type "BaseException", .type "object"] "ValueError.__new__" = true)
  (zk_NoHouse : PySem.W.keepIn K (.ref C_NoHouse) = true)
  (zs_NoHouse : PySem.W.subIn K (.ref C_NoHouse) (.type "BaseException") = some true)
  (zt_NoHouse : PySem.W.typeIn K (.ref C_NoHouse) = some (.type "type"))
  (zg_BadAccount : PySem.W.nsIn K mainGlobals "BadAccount" = some (some (.ref C_BadAccount)))
  (zx_BadAccount : PySem.W.excIn K C_BadAccount [.type "ValueError", .type "Exception", .type "BaseException", .type "object"] "ValueError.__new__" = true)
  (zk_BadAccount : PySem.W.keepIn K (.ref C_BadAccount) = true)
  (zs_BadAccount : PySem.W.subIn K (.ref C_BadAccount) (.type "BaseException") = some true)
  (zt_BadAccount : PySem.W.typeIn K (.ref C_BadAccount) = some (.type "type"))
  (zg_Table : PySem.W.nsIn K mainGlobals "Table" = some (some (.ref C_Table)))
  (pg_Table : PySem.W.plainGet K C_Table Str.empty = true)
  (hd_Table : PySem.W.hasDictIn K C_Table = true)
  (po_Table : PySem.W.plainOver K C_Table = true)
  (sa_Table : PySem.W.findIn K (.ref C_Table) "__setattr__" = some (some (.builtin "object.__setattr__")))
  (mk_Table : PySem.W.makesIn K C_Table = true)
  (kc_Table : PySem.W.keepIn K (.ref C_Table) = true)
  (na_Table_befell : PySem.W.findIn K (.ref C_Table) "befell" = some none)
  (na_Table_rows : PySem.W.findIn K (.ref C_Table) "rows" = some none)
  (na_Table_size : PySem.W.findIn K (.ref C_Table) "size" = some none)
  (na_Table_splits : PySem.W.findIn K (.ref C_Table) "splits" = some none)
  (a0 : PySem.W.nsIn K mainGlobals "are_lines" = some (some (.ref f_are_lines_)))
  (l0 : K.lookup f_are_lines_ = some ⟨oc0, od0, .func (PySem.W.fnOf "are_lines" "are_lines" (defArgs s_are_lines) (defBody s_are_lines) (defScope s_are_lines) .none kV0 dc0 pm0 an0 cd0 ct0), sl0⟩)
  (c0 : PySem.W.codeIn K cd0 "are_lines" = true)
  (k0 : PySem.W.keepIn K (.ref f_are_lines_) = true)
  (a1 : PySem.W.nsIn K mainGlobals "foremost" = some (some (.ref f_foremost_)))
  (l1 : K.lookup f_foremost_ = some ⟨oc1, od1, .func (PySem.W.fnOf "foremost" "foremost" (defArgs s_foremost) (defBody s_foremost) (defScope s_foremost) .none kV1 dc1 pm1 an1 cd1 ct1), sl1⟩)
  (c1 : PySem.W.codeIn K cd1 "foremost" = true)
  (k1 : PySem.W.keepIn K (.ref f_foremost_) = true)
  (a2 : PySem.W.nsIn K mainGlobals "grown_parts" = some (some (.ref f_grown_parts_)))
  (l2 : K.lookup f_grown_parts_ = some ⟨oc2, od2, .func (PySem.W.fnOf "grown_parts" "grown_parts" (defArgs s_grown_parts) (defBody s_grown_parts) (defScope s_grown_parts) .none kV2 dc2 pm2 an2 cd2 ct2), sl2⟩)
  (c2 : PySem.W.codeIn K cd2 "grown_parts" = true)
  (k2 : PySem.W.keepIn K (.ref f_grown_parts_) = true)
  (a3 : PySem.W.nsIn K mainGlobals "is_by" = some (some (.ref f_is_by_)))
  (l3 : K.lookup f_is_by_ = some ⟨oc3, od3, .func (PySem.W.fnOf "is_by" "is_by" (defArgs s_is_by) (defBody s_is_by) (defScope s_is_by) .none kV3 dc3 pm3 an3 cd3 ct3), sl3⟩)
  (c3 : PySem.W.codeIn K cd3 "is_by" = true)
  (k3 : PySem.W.keepIn K (.ref f_is_by_) = true)
  (a4 : PySem.W.nsIn K mainGlobals "is_cover" = some (some (.ref f_is_cover_)))
  (l4 : K.lookup f_is_cover_ = some ⟨oc4, od4, .func (PySem.W.fnOf "is_cover" "is_cover" (defArgs s_is_cover) (defBody s_is_cover) (defScope s_is_cover) .none kV4 dc4 pm4 an4 cd4 ct4), sl4⟩)
  (c4 : PySem.W.codeIn K cd4 "is_cover" = true)
  (k4 : PySem.W.keepIn K (.ref f_is_cover_) = true)
  (a5 : PySem.W.nsIn K mainGlobals "taken" = some (some (.ref f_taken_)))
  (l5 : K.lookup f_taken_ = some ⟨oc5, od5, .func (PySem.W.fnOf "taken" "taken" (defArgs s_taken) (defBody s_taken) (defScope s_taken) .none kV5 dc5 pm5 an5 cd5 ct5), sl5⟩)
  (c5 : PySem.W.codeIn K cd5 "taken" = true)
  (k5 : PySem.W.keepIn K (.ref f_taken_) = true)
  (a6 : PySem.W.nsIn K mainGlobals "look_houses" = some (some (.ref f_look_houses_)))
  (l6 : K.lookup f_look_houses_ = some ⟨oc6, od6, .func (PySem.W.fnOf "look_houses" "look_houses" (defArgs s_look_houses) (defBody s_look_houses) (defScope s_look_houses) .none kV6 dc6 pm6 an6 cd6 ct6), sl6⟩)
  (c6 : PySem.W.codeIn K cd6 "look_houses" = true)
  (k6 : PySem.W.keepIn K (.ref f_look_houses_) = true)
  (a7 : PySem.W.findIn K (.ref C_Table) "__init__" = some (some (.ref f_Table___init___)))
  (i7 : PySem.W.isFn K (.ref f_Table___init___) = true)
  (l7 : K.lookup f_Table___init___ = some ⟨oc7, od7, .func (PySem.W.fnOf "__init__" "Table.__init__" (defArgs s_Table___init__) (defBody s_Table___init__) (defScope s_Table___init__) .none kV7 dc7 pm7 an7 cd7 ct7), sl7⟩)
  (c7 : PySem.W.codeIn K cd7 "Table.__init__" = true)
  (k7 : PySem.W.keepIn K (.ref f_Table___init___) = true)
  (a8 : PySem.W.findIn K (.ref C_Table) "houses" = some (some (.ref f_Table_houses_)))
  (i8 : PySem.W.isFn K (.ref f_Table_houses_) = true)
  (l8 : K.lookup f_Table_houses_ = some ⟨oc8, od8, .func (PySem.W.fnOf "houses" "Table.houses" (defArgs s_Table_houses) (defBody s_Table_houses) (defScope s_Table_houses) .none kV8 dc8 pm8 an8 cd8 ct8), sl8⟩)
  (c8 : PySem.W.codeIn K cd8 "Table.houses" = true)
  (k8 : PySem.W.keepIn K (.ref f_Table_houses_) = true)
  (a9 : PySem.W.findIn K (.ref C_Table) "covers" = some (some (.ref f_Table_covers_)))
  (i9 : PySem.W.isFn K (.ref f_Table_covers_) = true)
  (l9 : K.lookup f_Table_covers_ = some ⟨oc9, od9, .func (PySem.W.fnOf "covers" "Table.covers" (defArgs s_Table_covers) (defBody s_Table_covers) (defScope s_Table_covers) .none kV9 dc9 pm9 an9 cd9 ct9), sl9⟩)
  (c9 : PySem.W.codeIn K cd9 "Table.covers" = true)
  (k9 : PySem.W.keepIn K (.ref f_Table_covers_) = true)
  (a10 : PySem.W.findIn K (.ref C_Table) "losses" = some (some (.ref f_Table_losses_)))
  (i10 : PySem.W.isFn K (.ref f_Table_losses_) = true)
  (l10 : K.lookup f_Table_losses_ = some ⟨oc10, od10, .func (PySem.W.fnOf "losses" "Table.losses" (defArgs s_Table_losses) (defBody s_Table_losses) (defScope s_Table_losses) .none kV10 dc10 pm10 an10 cd10 ct10), sl10⟩)
  (c10 : PySem.W.codeIn K cd10 "Table.losses" = true)
  (k10 : PySem.W.keepIn K (.ref f_Table_losses_) = true)
  (a11 : PySem.W.findIn K (.ref C_Table) "mosts" = some (some (.ref f_Table_mosts_)))
  (i11 : PySem.W.isFn K (.ref f_Table_mosts_) = true)
  (l11 : K.lookup f_Table_mosts_ = some ⟨oc11, od11, .func (PySem.W.fnOf "mosts" "Table.mosts" (defArgs s_Table_mosts) (defBody s_Table_mosts) (defScope s_Table_mosts) .none kV11 dc11 pm11 an11 cd11 ct11), sl11⟩)
  (c11 : PySem.W.codeIn K cd11 "Table.mosts" = true)
  (k11 : PySem.W.keepIn K (.ref f_Table_mosts_) = true)
  (a12 : PySem.W.nsIn K mainGlobals "look_house" = some (some (.ref f_look_house_)))
  (l12 : K.lookup f_look_house_ = some ⟨oc12, od12, .func (PySem.W.fnOf "look_house" "look_house" (defArgs s_look_house) (defBody s_look_house) (defScope s_look_house) .none kV12 dc12 pm12 an12 cd12 ct12), sl12⟩)
  (c12 : PySem.W.codeIn K cd12 "look_house" = true)
  (k12 : PySem.W.keepIn K (.ref f_look_house_) = true)
  (a13 : PySem.W.findIn K (.ref C_Table) "more" = some (some (.ref f_Table_more_)))
  (i13 : PySem.W.isFn K (.ref f_Table_more_) = true)
  (l13 : K.lookup f_Table_more_ = some ⟨oc13, od13, .func (PySem.W.fnOf "more" "Table.more" (defArgs s_Table_more) (defBody s_Table_more) (defScope s_Table_more) .none kV13 dc13 pm13 an13 cd13 ct13), sl13⟩)
  (c13 : PySem.W.codeIn K cd13 "Table.more" = true)
  (k13 : PySem.W.keepIn K (.ref f_Table_more_) = true)
  (a14 : PySem.W.findIn K (.ref C_Table) "loads" = some (some (.ref f_Table_loads_)))
  (i14 : PySem.W.isFn K (.ref f_Table_loads_) = true)
  (l14 : K.lookup f_Table_loads_ = some ⟨oc14, od14, .func (PySem.W.fnOf "loads" "Table.loads" (defArgs s_Table_loads) (defBody s_Table_loads) (defScope s_Table_loads) .none kV14 dc14 pm14 an14 cd14 ct14), sl14⟩)
  (c14 : PySem.W.codeIn K cd14 "Table.loads" = true)
  (k14 : PySem.W.keepIn K (.ref f_Table_loads_) = true)
  (a15 : PySem.W.findIn K (.ref C_Table) "passed" = some (some (.ref f_Table_passed_)))
  (i15 : PySem.W.isFn K (.ref f_Table_passed_) = true)
  (l15 : K.lookup f_Table_passed_ = some ⟨oc15, od15, .func (PySem.W.fnOf "passed" "Table.passed" (defArgs s_Table_passed) (defBody s_Table_passed) (defScope s_Table_passed) .none kV15 dc15 pm15 an15 cd15 ct15), sl15⟩)
  (c15 : PySem.W.codeIn K cd15 "Table.passed" = true)
  (k15 : PySem.W.keepIn K (.ref f_Table_passed_) = true)
  (a16 : PySem.W.nsIn K mainGlobals "look_account" = some (some (.ref f_look_account_)))
  (l16 : K.lookup f_look_account_ = some ⟨oc16, od16, .func (PySem.W.fnOf "look_account" "look_account" (defArgs s_look_account) (defBody s_look_account) (defScope s_look_account) .none kV16 dc16 pm16 an16 cd16 ct16), sl16⟩)
  (c16 : PySem.W.codeIn K cd16 "look_account" = true)
  (k16 : PySem.W.keepIn K (.ref f_look_account_) = true)
  (a17 : PySem.W.nsIn K mainGlobals "asked" = some (some (.ref f_asked_)))
  (l17 : K.lookup f_asked_ = some ⟨oc17, od17, .func (PySem.W.fnOf "asked" "asked" (defArgs s_asked) (defBody s_asked) (defScope s_asked) .none kV17 dc17 pm17 an17 cd17 ct17), sl17⟩)
  (c17 : PySem.W.codeIn K cd17 "asked" = true)
  (k17 : PySem.W.keepIn K (.ref f_asked_) = true)
  (a18 : PySem.W.nsIn K mainGlobals "_law_draws" = some (some (.ref f_law_draws_)))
  (l18 : K.lookup f_law_draws_ = some ⟨oc18, od18, .func (PySem.W.fnOf "_law_draws" "_law_draws" (defArgs s_law_draws) (defBody s_law_draws) (defScope s_law_draws) .none kV18 dc18 pm18 an18 cd18 ct18), sl18⟩)
  (c18 : PySem.W.codeIn K cd18 "_law_draws" = true)
  (k18 : PySem.W.keepIn K (.ref f_law_draws_) = true)
  (a19 : PySem.W.nsIn K mainGlobals "_law_whole" = some (some (.ref f_law_whole_)))
  (l19 : K.lookup f_law_whole_ = some ⟨oc19, od19, .func (PySem.W.fnOf "_law_whole" "_law_whole" (defArgs s_law_whole) (defBody s_law_whole) (defScope s_law_whole) .none kV19 dc19 pm19 an19 cd19 ct19), sl19⟩)
  (c19 : PySem.W.codeIn K cd19 "_law_whole" = true)
  (k19 : PySem.W.keepIn K (.ref f_law_whole_) = true)
  (a20 : PySem.W.nsIn K mainGlobals "_law_wholes" = some (some (.ref f_law_wholes_)))
  (l20 : K.lookup f_law_wholes_ = some ⟨oc20, od20, .func (PySem.W.fnOf "_law_wholes" "_law_wholes" (defArgs s_law_wholes) (defBody s_law_wholes) (defScope s_law_wholes) .none kV20 dc20 pm20 an20 cd20 ct20), sl20⟩)
  (c20 : PySem.W.codeIn K cd20 "_law_wholes" = true)
  (k20 : PySem.W.keepIn K (.ref f_law_wholes_) = true)
  (a21 : PySem.W.nsIn K mainGlobals "_law_list" = some (some (.ref f_law_list_)))
  (l21 : K.lookup f_law_list_ = some ⟨oc21, od21, .func (PySem.W.fnOf "_law_list" "_law_list" (defArgs s_law_list) (defBody s_law_list) (defScope s_law_list) .none kV21 dc21 pm21 an21 cd21 ct21), sl21⟩)
  (c21 : PySem.W.codeIn K cd21 "_law_list" = true)
  (k21 : PySem.W.keepIn K (.ref f_law_list_) = true)
  (a22 : PySem.W.nsIn K mainGlobals "_law_lines" = some (some (.ref f_law_lines_)))
  (l22 : K.lookup f_law_lines_ = some ⟨oc22, od22, .func (PySem.W.fnOf "_law_lines" "_law_lines" (defArgs s_law_lines) (defBody s_law_lines) (defScope s_law_lines) .none kV22 dc22 pm22 an22 cd22 ct22), sl22⟩)
  (c22 : PySem.W.codeIn K cd22 "_law_lines" = true)
  (k22 : PySem.W.keepIn K (.ref f_law_lines_) = true)
  (a23 : PySem.W.nsIn K mainGlobals "_law_cover" = some (some (.ref f_law_cover_)))
  (l23 : K.lookup f_law_cover_ = some ⟨oc23, od23, .func (PySem.W.fnOf "_law_cover" "_law_cover" (defArgs s_law_cover) (defBody s_law_cover) (defScope s_law_cover) .none kV23 dc23 pm23 an23 cd23 ct23), sl23⟩)
  (c23 : PySem.W.codeIn K cd23 "_law_cover" = true)
  (k23 : PySem.W.keepIn K (.ref f_law_cover_) = true)
  (a24 : PySem.W.nsIn K mainGlobals "_law_rows" = some (some (.ref f_law_rows_)))
  (l24 : K.lookup f_law_rows_ = some ⟨oc24, od24, .func (PySem.W.fnOf "_law_rows" "_law_rows" (defArgs s_law_rows) (defBody s_law_rows) (defScope s_law_rows) .none kV24 dc24 pm24 an24 cd24 ct24), sl24⟩)
  (c24 : PySem.W.codeIn K cd24 "_law_rows" = true)
  (k24 : PySem.W.keepIn K (.ref f_law_rows_) = true)
  (a25 : PySem.W.nsIn K mainGlobals "_law_losses" = some (some (.ref f_law_losses_)))
  (l25 : K.lookup f_law_losses_ = some ⟨oc25, od25, .func (PySem.W.fnOf "_law_losses" "_law_losses" (defArgs s_law_losses) (defBody s_law_losses) (defScope s_law_losses) .none kV25 dc25 pm25 an25 cd25 ct25), sl25⟩)
  (c25 : PySem.W.codeIn K cd25 "_law_losses" = true)
  (k25 : PySem.W.keepIn K (.ref f_law_losses_) = true)
  (a26 : PySem.W.nsIn K mainGlobals "_law_made" = some (some (.ref f_law_made_)))
  (l26 : K.lookup f_law_made_ = some ⟨oc26, od26, .func (PySem.W.fnOf "_law_made" "_law_made" (defArgs s_law_made) (defBody s_law_made) (defScope s_law_made) .none kV26 dc26 pm26 an26 cd26 ct26), sl26⟩)
  (c26 : PySem.W.codeIn K cd26 "_law_made" = true)
  (k26 : PySem.W.keepIn K (.ref f_law_made_) = true)
  (a27 : PySem.W.nsIn K mainGlobals "_law_split" = some (some (.ref f_law_split_)))
  (l27 : K.lookup f_law_split_ = some ⟨oc27, od27, .func (PySem.W.fnOf "_law_split" "_law_split" (defArgs s_law_split) (defBody s_law_split) (defScope s_law_split) .none kV27 dc27 pm27 an27 cd27 ct27), sl27⟩)
  (c27 : PySem.W.codeIn K cd27 "_law_split" = true)
  (k27 : PySem.W.keepIn K (.ref f_law_split_) = true)
  (a28 : PySem.W.nsIn K mainGlobals "_law_splits" = some (some (.ref f_law_splits_)))
  (l28 : K.lookup f_law_splits_ = some ⟨oc28, od28, .func (PySem.W.fnOf "_law_splits" "_law_splits" (defArgs s_law_splits) (defBody s_law_splits) (defScope s_law_splits) .none kV28 dc28 pm28 an28 cd28 ct28), sl28⟩)
  (c28 : PySem.W.codeIn K cd28 "_law_splits" = true)
  (k28 : PySem.W.keepIn K (.ref f_law_splits_) = true)
  (a29 : PySem.W.nsIn K mainGlobals "_law_loads" = some (some (.ref f_law_loads_)))
  (l29 : K.lookup f_law_loads_ = some ⟨oc29, od29, .func (PySem.W.fnOf "_law_loads" "_law_loads" (defArgs s_law_loads) (defBody s_law_loads) (defScope s_law_loads) .none kV29 dc29 pm29 an29 cd29 ct29), sl29⟩)
  (c29 : PySem.W.codeIn K cd29 "_law_loads" = true)
  (k29 : PySem.W.keepIn K (.ref f_law_loads_) = true)
  (a30 : PySem.W.nsIn K mainGlobals "_law_take" = some (some (.ref f_law_take_)))
  (l30 : K.lookup f_law_take_ = some ⟨oc30, od30, .func (PySem.W.fnOf "_law_take" "_law_take" (defArgs s_law_take) (defBody s_law_take) (defScope s_law_take) .none kV30 dc30 pm30 an30 cd30 ct30), sl30⟩)
  (c30 : PySem.W.codeIn K cd30 "_law_take" = true)
  (k30 : PySem.W.keepIn K (.ref f_law_take_) = true)
  (a31 : PySem.W.nsIn K mainGlobals "_law_passed" = some (some (.ref f_law_passed_)))
  (l31 : K.lookup f_law_passed_ = some ⟨oc31, od31, .func (PySem.W.fnOf "_law_passed" "_law_passed" (defArgs s_law_passed) (defBody s_law_passed) (defScope s_law_passed) .none kV31 dc31 pm31 an31 cd31 ct31), sl31⟩)
  (c31 : PySem.W.codeIn K cd31 "_law_passed" = true)
  (k31 : PySem.W.keepIn K (.ref f_law_passed_) = true)
  (a32 : PySem.W.nsIn K mainGlobals "_law_account" = some (some (.ref f_law_account_)))
  (l32 : K.lookup f_law_account_ = some ⟨oc32, od32, .func (PySem.W.fnOf "_law_account" "_law_account" (defArgs s_law_account) (defBody s_law_account) (defScope s_law_account) .none kV32 dc32 pm32 an32 cd32 ct32), sl32⟩)
  (c32 : PySem.W.codeIn K cd32 "_law_account" = true)
  (k32 : PySem.W.keepIn K (.ref f_law_account_) = true)
  (a33 : PySem.W.nsIn K mainGlobals "law" = some (some (.ref f_law_)))
  (l33 : K.lookup f_law_ = some ⟨oc33, od33, .func (PySem.W.fnOf "law" "law" (defArgs s_law) (defBody s_law) (defScope s_law) .none kV33 dc33 pm33 an33 cd33 ct33), sl33⟩)
  (c33 : PySem.W.codeIn K cd33 "law" = true)
  (k33 : PySem.W.keepIn K (.ref f_law_) = true) :
    ∃ fd : FuncData, (∀ (s : Shared) (v : Value), BindsTo s fd ⟨[v], []⟩ [("_law_script", v)]) ∧ ∀ base : Heap, K.In base → base.Ns mainGlobals mg → FnOk l.prog w K mg base (L2.CX l.prog w) 5 fa fd ["_law_script"] (spLaw K) := by
  have e := hfa.symm.trans (PySem.W.mg_of X G a33)
  cases e
  have T : Tx K mg := {
    b_bool := PySem.W.mg_none_of X G zb_bool,
    b_int := PySem.W.mg_none_of X G zb_int,
    b_isinstance := PySem.W.mg_none_of X G zb_isinstance,
    b_len := PySem.W.mg_none_of X G zb_len,
    b_list := PySem.W.mg_none_of X G zb_list,
    b_max := PySem.W.mg_none_of X G zb_max,
    b_min := PySem.W.mg_none_of X G zb_min,
    b_range := PySem.W.mg_none_of X G zb_range,
    b_tuple := PySem.W.mg_none_of X G zb_tuple,
    tk_MOST_SIGNERS := tk_MOST_SIGNERS,
    c_MOST_SIGNERS := PySem.W.mg_of X G zc_MOST_SIGNERS,
    tk_MOST_HOUSES := tk_MOST_HOUSES,
    c_MOST_HOUSES := PySem.W.mg_of X G zc_MOST_HOUSES,
    tk_MOST_LINE := tk_MOST_LINE,
    c_MOST_LINE := PySem.W.mg_of X G zc_MOST_LINE,
    tk_MOST_POINT := tk_MOST_POINT,
    c_MOST_POINT := PySem.W.mg_of X G zc_MOST_POINT,
    tk_MOST := tk_MOST,
    c_MOST := PySem.W.mg_of X G zc_MOST,
    C_BadHouses := C_BadHouses,
    x_BadHouses := ⟨PySem.W.mg_of X G zg_BadHouses, zx_BadHouses, zk_BadHouses, zs_BadHouses, zt_BadHouses⟩,
    tk_MOST_COVERS := tk_MOST_COVERS,
    c_MOST_COVERS := PySem.W.mg_of X G zc_MOST_COVERS,
    C_BadCover := C_BadCover,
    x_BadCover := ⟨PySem.W.mg_of X G zg_BadCover, zx_BadCover, zk_BadCover, zs_BadCover, zt_BadCover⟩,
    C_BadLosses := C_BadLosses,
    x_BadLosses := ⟨PySem.W.mg_of X G zg_BadLosses, zx_BadLosses, zk_BadLosses, zs_BadLosses, zt_BadLosses⟩,
    tk_MOST_LOSS := tk_MOST_LOSS,
    c_MOST_LOSS := PySem.W.mg_of X G zc_MOST_LOSS,
    C_NoHouse := C_NoHouse,
    x_NoHouse := ⟨PySem.W.mg_of X G zg_NoHouse, zx_NoHouse, zk_NoHouse, zs_NoHouse, zt_NoHouse⟩,
    C_BadAccount := C_BadAccount,
    x_BadAccount := ⟨PySem.W.mg_of X G zg_BadAccount, zx_BadAccount, zk_BadAccount, zs_BadAccount, zt_BadAccount⟩,
    C_Table := C_Table,
    g_Table := PySem.W.mg_of X G zg_Table,
    cls_Table := ⟨pg_Table, hd_Table, po_Table, sa_Table⟩,
    na_Table_befell := na_Table_befell,
    na_Table_rows := na_Table_rows,
    na_Table_size := na_Table_size,
    na_Table_splits := na_Table_splits }
  refine ⟨PySem.W.fnOf "law" "law" (defArgs s_law) (defBody s_law) (defScope s_law) .none kV33 dc33 pm33 an33 cd33 ct33, fun s v => .of_eq rfl, fun base _ _ => ?_⟩
  have F0 := fun_mk (st := s_are_lines) l0 c0 k0
  have B0 := F0.binds (ps := ["lines"]) fun _ _ _ _ _ _ us hl => match us, hl with | [_], _ => rfl
  have c_are_lines : Cl l.prog w ⟨K, mg⟩ base 1 "are_lines" f_are_lines := ⟨f_are_lines_, _, _, ok_are_lines (P := l.prog) (w := w) (base := base) F0 T, PySem.W.mg_of X G a0, k0, B0⟩
  have F1 := fun_mk (st := s_foremost) l1 c1 k1
  have B1 := F1.binds (ps := ["lines", "borne"]) fun _ _ _ _ _ _ us hl => match us, hl with | [_, _], _ => rfl
  have c_foremost : Cl l.prog w ⟨K, mg⟩ base 1 "foremost" f_foremost := ⟨f_foremost_, _, _, ok_foremost (P := l.prog) (w := w) (base := base) F1 T, PySem.W.mg_of X G a1, k1, B1⟩
  have F2 := fun_mk (st := s_grown_parts) l2 c2 k2
  have B2 := F2.binds (ps := ["lines", "most"]) fun _ _ _ _ _ _ us hl => match us, hl with | [_, _], _ => rfl
  have c_grown_parts : Cl l.prog w ⟨K, mg⟩ base 2 "grown_parts" f_grown_parts := ⟨f_grown_parts_, _, _, ok_grown_parts (P := l.prog) (w := w) (base := base) F2 T c_foremost, PySem.W.mg_of X G a2, k2, B2⟩
  have F3 := fun_mk (st := s_is_by) l3 c3 k3
  have B3 := F3.binds (ps := ["kind", "by"]) fun _ _ _ _ _ _ us hl => match us, hl with | [_, _], _ => rfl
  have c_is_by : Cl l.prog w ⟨K, mg⟩ base 1 "is_by" f_is_by := ⟨f_is_by_, _, _, ok_is_by (P := l.prog) (w := w) (base := base) F3 T, PySem.W.mg_of X G a3, k3, B3⟩
  have F4 := fun_mk (st := s_is_cover) l4 c4 k4
  have B4 := F4.binds (ps := ["houses", "cover"]) fun _ _ _ _ _ _ us hl => match us, hl with | [_, _], _ => rfl
  have c_is_cover : Cl l.prog w ⟨K, mg⟩ base 2 "is_cover" f_is_cover := ⟨f_is_cover_, _, _, ok_is_cover (P := l.prog) (w := w) (base := base) F4 T c_are_lines c_is_by, PySem.W.mg_of X G a4, k4, B4⟩
  have F5 := fun_mk (st := s_taken) l5 c5 k5
  have B5 := F5.binds (ps := ["kind", "by", "most", "reach"]) fun _ _ _ _ _ _ us hl => match us, hl with | [_, _, _, _], _ => rfl
  have c_taken : Cl l.prog w ⟨K, mg⟩ base 1 "taken" f_taken := ⟨f_taken_, _, _, ok_taken (P := l.prog) (w := w) (base := base) F5 T, PySem.W.mg_of X G a5, k5, B5⟩
  have F6 := fun_mk (st := s_look_houses) l6 c6 k6
  have B6 := F6.binds (ps := ["houses"]) fun _ _ _ _ _ _ us hl => match us, hl with | [_], _ => rfl
  have c_look_houses : Cl l.prog w ⟨K, mg⟩ base 1 "look_houses" f_look_houses := ⟨f_look_houses_, _, _, ok_look_houses (P := l.prog) (w := w) (base := base) F6 T, PySem.W.mg_of X G a6, k6, B6⟩
  have F7 := fun_mk (st := s_Table___init__) l7 c7 k7
  have B7 := F7.binds (ps := ["self", "houses", "covers", "losses"]) fun _ _ _ _ _ _ us hl => match us, hl with | [_, _, _, _], _ => rfl
  have c_Table___init__ : Clc l.prog w ⟨K, mg⟩ base 3 "Table" f_Table___init__ := ⟨⟨C_Table, f_Table___init___, _, _, PySem.W.mg_of X G zg_Table, ⟨mk_Table, a7, i7, kc_Table⟩, ok_Table___init__ (P := l.prog) (w := w) (base := base) F7 T c_grown_parts c_is_cover c_look_houses, B7⟩⟩
  have F8 := fun_mk (st := s_Table_houses) l8 c8 k8
  have B8 := F8.binds (ps := ["self"]) fun _ _ _ _ _ _ us hl => match us, hl with | [_], _ => rfl
  have c_Table_houses : Clm l.prog w ⟨K, mg⟩ base 1 "Table" "houses" f_Table_houses := ⟨⟨C_Table, f_Table_houses_, _, _, PySem.W.mg_of X G zg_Table, ⟨pg_Table, hd_Table, po_Table, sa_Table⟩, ⟨a8, i8, k8⟩, ok_Table_houses (P := l.prog) (w := w) (base := base) F8 T, B8⟩⟩
  have F9 := fun_mk (st := s_Table_covers) l9 c9 k9
  have B9 := F9.binds (ps := ["self"]) fun _ _ _ _ _ _ us hl => match us, hl with | [_], _ => rfl
  have c_Table_covers : Clm l.prog w ⟨K, mg⟩ base 1 "Table" "covers" f_Table_covers := ⟨⟨C_Table, f_Table_covers_, _, _, PySem.W.mg_of X G zg_Table, ⟨pg_Table, hd_Table, po_Table, sa_Table⟩, ⟨a9, i9, k9⟩, ok_Table_covers (P := l.prog) (w := w) (base := base) F9 T, B9⟩⟩
  have F10 := fun_mk (st := s_Table_losses) l10 c10 k10
  have B10 := F10.binds (ps := ["self"]) fun _ _ _ _ _ _ us hl => match us, hl with | [_], _ => rfl
  have c_Table_losses : Clm l.prog w ⟨K, mg⟩ base 1 "Table" "losses" f_Table_losses := ⟨⟨C_Table, f_Table_losses_, _, _, PySem.W.mg_of X G zg_Table, ⟨pg_Table, hd_Table, po_Table, sa_Table⟩, ⟨a10, i10, k10⟩, ok_Table_losses (P := l.prog) (w := w) (base := base) F10 T, B10⟩⟩
  have F11 := fun_mk (st := s_Table_mosts) l11 c11 k11
  have B11 := F11.binds (ps := ["self"]) fun _ _ _ _ _ _ us hl => match us, hl with | [_], _ => rfl
  have c_Table_mosts : Clm l.prog w ⟨K, mg⟩ base 1 "Table" "mosts" f_Table_mosts := ⟨⟨C_Table, f_Table_mosts_, _, _, PySem.W.mg_of X G zg_Table, ⟨pg_Table, hd_Table, po_Table, sa_Table⟩, ⟨a11, i11, k11⟩, ok_Table_mosts (P := l.prog) (w := w) (base := base) F11 T, B11⟩⟩
  have F12 := fun_mk (st := s_look_house) l12 c12 k12
  have B12 := F12.binds (ps := ["table", "house"]) fun _ _ _ _ _ _ us hl => match us, hl with | [_, _], _ => rfl
  have c_look_house : Cl l.prog w ⟨K, mg⟩ base 2 "look_house" f_look_house := ⟨f_look_house_, _, _, ok_look_house (P := l.prog) (w := w) (base := base) F12 T c_Table_houses, PySem.W.mg_of X G a12, k12, B12⟩
  have F13 := fun_mk (st := s_Table_more) l13 c13 k13
  have B13 := F13.binds (ps := ["self", "house", "crowns"]) fun _ _ _ _ _ _ us hl => match us, hl with | [_, _, _], _ => rfl
  have c_Table_more : Clm l.prog w ⟨K, mg⟩ base 5 "Table" "more" f_Table_more := ⟨⟨C_Table, f_Table_more_, _, _, PySem.W.mg_of X G zg_Table, ⟨pg_Table, hd_Table, po_Table, sa_Table⟩, ⟨a13, i13, k13⟩, ok_Table_more (P := l.prog) (w := w) (base := base) F13 T c_Table___init__ c_look_house, B13⟩⟩
  have F14 := fun_mk (st := s_Table_loads) l14 c14 k14
  have B14 := F14.binds (ps := ["self", "account"]) fun _ _ _ _ _ _ us hl => match us, hl with | [_, _], _ => rfl
  have c_Table_loads : Clm l.prog w ⟨K, mg⟩ base 1 "Table" "loads" f_Table_loads := ⟨⟨C_Table, f_Table_loads_, _, _, PySem.W.mg_of X G zg_Table, ⟨pg_Table, hd_Table, po_Table, sa_Table⟩, ⟨a14, i14, k14⟩, ok_Table_loads (P := l.prog) (w := w) (base := base) F14 T, B14⟩⟩
  have F15 := fun_mk (st := s_Table_passed) l15 c15 k15
  have B15 := F15.binds (ps := ["self", "account"]) fun _ _ _ _ _ _ us hl => match us, hl with | [_, _], _ => rfl
  have c_Table_passed : Clm l.prog w ⟨K, mg⟩ base 2 "Table" "passed" f_Table_passed := ⟨⟨C_Table, f_Table_passed_, _, _, PySem.W.mg_of X G zg_Table, ⟨pg_Table, hd_Table, po_Table, sa_Table⟩, ⟨a15, i15, k15⟩, ok_Table_passed (P := l.prog) (w := w) (base := base) F15 T c_Table_loads c_taken, B15⟩⟩
  have F16 := fun_mk (st := s_look_account) l16 c16 k16
  have B16 := F16.binds (ps := ["table", "account"]) fun _ _ _ _ _ _ us hl => match us, hl with | [_, _], _ => rfl
  have c_look_account : Cl l.prog w ⟨K, mg⟩ base 2 "look_account" f_look_account := ⟨f_look_account_, _, _, ok_look_account (P := l.prog) (w := w) (base := base) F16 T c_Table_mosts, PySem.W.mg_of X G a16, k16, B16⟩
  have F17 := fun_mk (st := s_asked) l17 c17 k17
  have B17 := F17.binds (ps := ["table", "account"]) fun _ _ _ _ _ _ us hl => match us, hl with | [_, _], _ => rfl
  have c_asked : Cl l.prog w ⟨K, mg⟩ base 3 "asked" f_asked := ⟨f_asked_, _, _, ok_asked (P := l.prog) (w := w) (base := base) F17 T c_Table_passed c_look_account, PySem.W.mg_of X G a17, k17, B17⟩
  have F18 := fun_mk (st := s_law_draws) l18 c18 k18
  have B18 := F18.binds (ps := ["_law_script", "_law_many"]) fun _ _ _ _ _ _ us hl => match us, hl with | [_, _], _ => rfl
  have c_law_draws : Cl l.prog w ⟨K, mg⟩ base 1 "_law_draws" f_law_draws := ⟨f_law_draws_, _, _, ok_law_draws (P := l.prog) (w := w) (base := base) F18 T, PySem.W.mg_of X G a18, k18, B18⟩
  have F19 := fun_mk (st := s_law_whole) l19 c19 k19
  have B19 := F19.binds (ps := ["_law_found"]) fun _ _ _ _ _ _ us hl => match us, hl with | [_], _ => rfl
  have c_law_whole : Cl l.prog w ⟨K, mg⟩ base 1 "_law_whole" f_law_whole := ⟨f_law_whole_, _, _, ok_law_whole (P := l.prog) (w := w) (base := base) F19 T, PySem.W.mg_of X G a19, k19, B19⟩
  have F20 := fun_mk (st := s_law_wholes) l20 c20 k20
  have B20 := F20.binds (ps := ["_law_found", "_law_many"]) fun _ _ _ _ _ _ us hl => match us, hl with | [_, _], _ => rfl
  have c_law_wholes : Cl l.prog w ⟨K, mg⟩ base 2 "_law_wholes" f_law_wholes := ⟨f_law_wholes_, _, _, ok_law_wholes (P := l.prog) (w := w) (base := base) F20 T c_law_whole, PySem.W.mg_of X G a20, k20, B20⟩
  have F21 := fun_mk (st := s_law_list) l21 c21 k21
  have B21 := F21.binds (ps := ["_law_found", "_law_due"]) fun _ _ _ _ _ _ us hl => match us, hl with | [_, _], _ => rfl
  have c_law_list : Cl l.prog w ⟨K, mg⟩ base 3 "_law_list" f_law_list := ⟨f_law_list_, _, _, ok_law_list (P := l.prog) (w := w) (base := base) F21 T c_law_wholes, PySem.W.mg_of X G a21, k21, B21⟩
  have F22 := fun_mk (st := s_law_lines) l22 c22 k22
  have B22 := F22.binds (ps := ["_law_houses", "_law_house", "_law_draws_here"]) fun _ _ _ _ _ _ us hl => match us, hl with | [_, _, _], _ => rfl
  have c_law_lines : Cl l.prog w ⟨K, mg⟩ base 1 "_law_lines" f_law_lines := ⟨f_law_lines_, _, _, ok_law_lines (P := l.prog) (w := w) (base := base) F22 T, PySem.W.mg_of X G a22, k22, B22⟩
  have F23 := fun_mk (st := s_law_cover) l23 c23 k23
  have B23 := F23.binds (ps := ["_law_houses", "_law_draws_here"]) fun _ _ _ _ _ _ us hl => match us, hl with | [_, _], _ => rfl
  have c_law_cover : Cl l.prog w ⟨K, mg⟩ base 2 "_law_cover" f_law_cover := ⟨f_law_cover_, _, _, ok_law_cover (P := l.prog) (w := w) (base := base) F23 T c_law_lines, PySem.W.mg_of X G a23, k23, B23⟩
  have F24 := fun_mk (st := s_law_rows) l24 c24 k24
  have B24 := F24.binds (ps := ["_law_houses", "_law_draws_here"]) fun _ _ _ _ _ _ us hl => match us, hl with | [_, _], _ => rfl
  have c_law_rows : Cl l.prog w ⟨K, mg⟩ base 3 "_law_rows" f_law_rows := ⟨f_law_rows_, _, _, ok_law_rows (P := l.prog) (w := w) (base := base) F24 T c_law_cover, PySem.W.mg_of X G a24, k24, B24⟩
  have F25 := fun_mk (st := s_law_losses) l25 c25 k25
  have B25 := F25.binds (ps := ["_law_houses", "_law_draws_here"]) fun _ _ _ _ _ _ us hl => match us, hl with | [_, _], _ => rfl
  have c_law_losses : Cl l.prog w ⟨K, mg⟩ base 1 "_law_losses" f_law_losses := ⟨f_law_losses_, _, _, ok_law_losses (P := l.prog) (w := w) (base := base) F25 T, PySem.W.mg_of X G a25, k25, B25⟩
  have F26 := fun_mk (st := s_law_made) l26 c26 k26
  have B26 := F26.binds (ps := ["_law_draws_here"]) fun _ _ _ _ _ _ us hl => match us, hl with | [_], _ => rfl
  have c_law_made : Cl l.prog w ⟨K, mg⟩ base 4 "_law_made" f_law_made := ⟨f_law_made_, _, _, ok_law_made (P := l.prog) (w := w) (base := base) F26 T c_law_losses c_law_rows, PySem.W.mg_of X G a26, k26, B26⟩
  have F27 := fun_mk (st := s_law_split) l27 c27 k27
  have B27 := F27.binds (ps := ["_law_lines_here", "_law_most"]) fun _ _ _ _ _ _ us hl => match us, hl with | [_, _], _ => rfl
  have c_law_split : Cl l.prog w ⟨K, mg⟩ base 1 "_law_split" f_law_split := ⟨f_law_split_, _, _, ok_law_split (P := l.prog) (w := w) (base := base) F27 T, PySem.W.mg_of X G a27, k27, B27⟩
  have F28 := fun_mk (st := s_law_splits) l28 c28 k28
  have B28 := F28.binds (ps := ["_law_covers"]) fun _ _ _ _ _ _ us hl => match us, hl with | [_], _ => rfl
  have c_law_splits : Cl l.prog w ⟨K, mg⟩ base 2 "_law_splits" f_law_splits := ⟨f_law_splits_, _, _, ok_law_splits (P := l.prog) (w := w) (base := base) F28 T c_law_split, PySem.W.mg_of X G a28, k28, B28⟩
  have F29 := fun_mk (st := s_law_loads) l29 c29 k29
  have B29 := F29.binds (ps := ["_law_covers", "_law_losses_here", "_law_splits_here", "_law_account_here"]) fun _ _ _ _ _ _ us hl => match us, hl with | [_, _, _, _], _ => rfl
  have c_law_loads : Cl l.prog w ⟨K, mg⟩ base 1 "_law_loads" f_law_loads := ⟨f_law_loads_, _, _, ok_law_loads (P := l.prog) (w := w) (base := base) F29 T, PySem.W.mg_of X G a29, k29, B29⟩
  have F30 := fun_mk (st := s_law_take) l30 c30 k30
  have B30 := F30.binds (ps := ["_law_kind", "_law_by", "_law_most", "_law_reach"]) fun _ _ _ _ _ _ us hl => match us, hl with | [_, _, _, _], _ => rfl
  have c_law_take : Cl l.prog w ⟨K, mg⟩ base 1 "_law_take" f_law_take := ⟨f_law_take_, _, _, ok_law_take (P := l.prog) (w := w) (base := base) F30 T, PySem.W.mg_of X G a30, k30, B30⟩
  have F31 := fun_mk (st := s_law_passed) l31 c31 k31
  have B31 := F31.binds (ps := ["_law_covers", "_law_losses_here", "_law_splits_here", "_law_account_here"]) fun _ _ _ _ _ _ us hl => match us, hl with | [_, _, _, _], _ => rfl
  have c_law_passed : Cl l.prog w ⟨K, mg⟩ base 2 "_law_passed" f_law_passed := ⟨f_law_passed_, _, _, ok_law_passed (P := l.prog) (w := w) (base := base) F31 T c_law_loads c_law_take, PySem.W.mg_of X G a31, k31, B31⟩
  have F32 := fun_mk (st := s_law_account) l32 c32 k32
  have B32 := F32.binds (ps := ["_law_covers", "_law_draws_here"]) fun _ _ _ _ _ _ us hl => match us, hl with | [_, _], _ => rfl
  have c_law_account : Cl l.prog w ⟨K, mg⟩ base 1 "_law_account" f_law_account := ⟨f_law_account_, _, _, ok_law_account (P := l.prog) (w := w) (base := base) F32 T, PySem.W.mg_of X G a32, k32, B32⟩
  have F33 := fun_mk (st := s_law) l33 c33 k33
  have B33 := F33.binds (ps := ["_law_script"]) fun _ _ _ _ _ _ us hl => match us, hl with | [_], _ => rfl
  exact FnOk.imp (ok_law (P := l.prog) (w := w) (base := base) F33 T c_Table___init__ c_law_account c_law_draws c_law_list c_law_made c_law_passed c_law_splits c_asked) law_sp
theorem walk {l : PySem.W.OpenLaw} {q : Program} {loose : List Str} {XP : (Str → Option Value) → Heap → Prop} {YP : World → Heap → Prop} {d : DefRec} {K : Params → PySem.W.Frag} (hn : l.most = some 63) (hdf : d.params.defaults = [])
    (hY : ∀ (w : World) (h : Heap), YP w h → (K w.params).In h)
    (F : ∀ (w : World) (mg : Str → Option Value) (fa : Addr) (h : Heap), (K w.params).In h → h.Ns mainGlobals mg → mg d.name = some (.ref fa) →
      ∃ fd : FuncData, (∀ (s : Shared) (u : Value), BindsTo s fd ⟨[u], []⟩ [("_law_script", u)]) ∧ ∀ base : Heap, (K w.params).In base → base.Ns mainGlobals mg → FnOk l.prog w (K w.params) mg base (L2.CX l.prog w) 5 fa fd ["_law_script"] (spLaw (K w.params))) :
    PySem.W.WalkO q loose XP YP l.row.toRowW d [] (fun f vs => PySem.call f vs) :=
  L2.walk_of (n := 63) (k := 5) (x := "_law_script") (CX := fun w => L2.CX l.prog w) (sp := fun w => spLaw (K w.params)) hn (by decide) hdf ⟨rfl, by decide, by decide⟩ hY F (fun _ _ a ns hl _ hS => ⟨a, ns, rfl, hS, hl, fun _ => rfl⟩) fun _ _ _ _ _ z => by
    obtain ⟨_, _, _, _, _, _, _, _, _, _, _, _, z⟩ := z
    exact z
end RC
open PySem PySem.W PyProof.Rows
set_option maxRecDepth 100000 in
set_option maxHeartbeats 0 in
theorem PySem.Challenge.cw_ringcede_k12_asked_by_an_account_holds : PySem.Challenge.rw_ringcede_k12_asked_by_an_account.Holds := by
  w_on; o_law; k_head; (case hw => w_witness2)
  k_fill
  refine RC.walk (l := PySem.Challenge.rw_ringcede_k12_asked_by_an_account) rfl rfl (fun w h Y => PySem.W.kIn_of Y) ?F
  case F =>
    intro w mg fa h KX G hmg
    refine' RC.all_mk KX G hmg ?zb_bool ?zb_int ?zb_isinstance ?zb_len ?zb_list ?zb_max ?zb_min ?zb_range ?zb_tuple ?zc_MOST_SIGNERS ?zc_MOST_HOUSES ?zc_MOST_LINE ?zc_MOST_POINT ?zc_MOST ?zg_BadHouses ?zx_BadHouses ?zk_BadHouses ?zs_BadHouses ?zt_BadHouses ?zc_MOST_COVERS ?zg_BadCover ?zx_BadCover ?zk_BadCover ?zs_BadCover ?zt_BadCover ?zg_BadLosses ?zx_BadLosses ?zk_BadLosses ?zs_BadLosses ?zt_BadLosses ?zc_MOST_LOSS ?zg_NoHouse ?zx_NoHouse ?zk_NoHouse ?zs_NoHouse ?zt_NoHouse ?zg_BadAccount ?zx_BadAccount ?zk_BadAccount ?zs_BadAccount ?zt_BadAccount ?zg_Table ?pg_Table ?hd_Table ?po_Table ?sa_Table ?mk_Table ?kc_Table ?na_Table_befell ?na_Table_rows ?na_Table_size ?na_Table_splits ?a0 ?l0 ?c0 ?k0 ?a1 ?l1 ?c1 ?k1 ?a2 ?l2 ?c2 ?k2 ?a3 ?l3 ?c3 ?k3 ?a4 ?l4 ?c4 ?k4 ?a5 ?l5 ?c5 ?k5 ?a6 ?l6 ?c6 ?k6 ?a7 ?i7 ?l7 ?c7 ?k7 ?a8 ?i8 ?l8 ?c8 ?k8 ?a9 ?i9 ?l9 ?c9 ?k9 ?a10 ?i10 ?l10 ?c10 ?k10 ?a11 ?i11 ?l11 ?c11 ?k11 ?a12 ?l12 ?c12 ?k12 ?a13 ?i13 ?l13 ?c13 ?k13 ?a14 ?i14 ?l14 ?c14 ?k14 ?a15 ?i15 ?l15 ?c15 ?k15 ?a16 ?l16 ?c16 ?k16 ?a17 ?l17 ?c17 ?k17 ?a18 ?l18 ?c18 ?k18 ?a19 ?l19 ?c19 ?k19 ?a20 ?l20 ?c20 ?k20 ?a21 ?l21 ?c21 ?k21 ?a22 ?l22 ?c22 ?k22 ?a23 ?l23 ?c23 ?k23 ?a24 ?l24 ?c24 ?k24 ?a25 ?l25 ?c25 ?k25 ?a26 ?l26 ?c26 ?k26 ?a27 ?l27 ?c27 ?k27 ?a28 ?l28 ?c28 ?k28 ?a29 ?l29 ?c29 ?k29 ?a30 ?l30 ?c30 ?k30 ?a31 ?l31 ?c31 ?k31 ?a32 ?l32 ?c32 ?k32 ?a33 ?l33 ?c33 ?k33
    (case zb_bool => k_is)
    (case zb_int => k_is)
    (case zb_isinstance => k_is)
    (case zb_len => k_is)
    (case zb_list => k_is)
    (case zb_max => k_is)
    (case zb_min => k_is)
    (case zb_range => k_is)
    (case zb_tuple => k_is)
    (case zc_MOST_SIGNERS => k_is)
    (case zc_MOST_HOUSES => k_is)
    (case zc_MOST_LINE => k_is)
    (case zc_MOST_POINT => k_is)
    (case zc_MOST => k_is)
    (case zg_BadHouses => k_is)
    (case zx_BadHouses => k_exc)
    (case zk_BadHouses => k_is)
    (case zs_BadHouses => k_is)
    (case zt_BadHouses => k_is)
    (case zc_MOST_COVERS => k_is)
    (case zg_BadCover => k_is)
    (case zx_BadCover => k_exc)
    (case zk_BadCover => k_is)
    (case zs_BadCover => k_is)
    (case zt_BadCover => k_is)
    (case zg_BadLosses => k_is)
    (case zx_BadLosses => k_exc)
    (case zk_BadLosses => k_is)
    (case zs_BadLosses => k_is)
    (case zt_BadLosses => k_is)
    (case zc_MOST_LOSS => k_is)
    (case zg_NoHouse => k_is)
    (case zx_NoHouse => k_exc)
    (case zk_NoHouse => k_is)
    (case zs_NoHouse => k_is)
    (case zt_NoHouse => k_is)
    (case zg_BadAccount => k_is)
    (case zx_BadAccount => k_exc)
    (case zk_BadAccount => k_is)
    (case zs_BadAccount => k_is)
    (case zt_BadAccount => k_is)
    (case zg_Table => k_is)
    (case pg_Table => k_is)
    (case hd_Table => k_is)
    (case po_Table => k_is)
    (case sa_Table => k_is)
    (case mk_Table => k_is)
    (case kc_Table => k_is)
    (case na_Table_befell => k_is)
    (case na_Table_rows => k_is)
    (case na_Table_size => k_is)
    (case na_Table_splits => k_is)
    (case a0 => k_is)
    (case l0 => k_is)
    (case c0 => k_is)
    (case k0 => k_is)
    (case a1 => k_is)
    (case l1 => k_is)
    (case c1 => k_is)
    (case k1 => k_is)
    (case a2 => k_is)
    (case l2 => k_is)
    (case c2 => k_is)
    (case k2 => k_is)
    (case a3 => k_is)
    (case l3 => k_is)
    (case c3 => k_is)
    (case k3 => k_is)
    (case a4 => k_is)
    (case l4 => k_is)
    (case c4 => k_is)
    (case k4 => k_is)
    (case a5 => k_is)
    (case l5 => k_is)
    (case c5 => k_is)
    (case k5 => k_is)
    (case a6 => k_is)
    (case l6 => k_is)
    (case c6 => k_is)
    (case k6 => k_is)
    (case a7 => k_is)
    (case i7 => k_is)
    (case l7 => k_is)
    (case c7 => k_is)
    (case k7 => k_is)
    (case a8 => k_is)
    (case i8 => k_is)
    (case l8 => k_is)
    (case c8 => k_is)
    (case k8 => k_is)
    (case a9 => k_is)
    (case i9 => k_is)
    (case l9 => k_is)
    (case c9 => k_is)
    (case k9 => k_is)
    (case a10 => k_is)
    (case i10 => k_is)
    (case l10 => k_is)
    (case c10 => k_is)
    (case k10 => k_is)
    (case a11 => k_is)
    (case i11 => k_is)
    (case l11 => k_is)
    (case c11 => k_is)
    (case k11 => k_is)
    (case a12 => k_is)
    (case l12 => k_is)
    (case c12 => k_is)
    (case k12 => k_is)
    (case a13 => k_is)
    (case i13 => k_is)
    (case l13 => k_is)
    (case c13 => k_is)
    (case k13 => k_is)
    (case a14 => k_is)
    (case i14 => k_is)
    (case l14 => k_is)
    (case c14 => k_is)
    (case k14 => k_is)
    (case a15 => k_is)
    (case i15 => k_is)
    (case l15 => k_is)
    (case c15 => k_is)
    (case k15 => k_is)
    (case a16 => k_is)
    (case l16 => k_is)
    (case c16 => k_is)
    (case k16 => k_is)
    (case a17 => k_is)
    (case l17 => k_is)
    (case c17 => k_is)
    (case k17 => k_is)
    (case a18 => k_is)
    (case l18 => k_is)
    (case c18 => k_is)
    (case k18 => k_is)
    (case a19 => k_is)
    (case l19 => k_is)
    (case c19 => k_is)
    (case k19 => k_is)
    (case a20 => k_is)
    (case l20 => k_is)
    (case c20 => k_is)
    (case k20 => k_is)
    (case a21 => k_is)
    (case l21 => k_is)
    (case c21 => k_is)
    (case k21 => k_is)
    (case a22 => k_is)
    (case l22 => k_is)
    (case c22 => k_is)
    (case k22 => k_is)
    (case a23 => k_is)
    (case l23 => k_is)
    (case c23 => k_is)
    (case k23 => k_is)
    (case a24 => k_is)
    (case l24 => k_is)
    (case c24 => k_is)
    (case k24 => k_is)
    (case a25 => k_is)
    (case l25 => k_is)
    (case c25 => k_is)
    (case k25 => k_is)
    (case a26 => k_is)
    (case l26 => k_is)
    (case c26 => k_is)
    (case k26 => k_is)
    (case a27 => k_is)
    (case l27 => k_is)
    (case c27 => k_is)
    (case k27 => k_is)
    (case a28 => k_is)
    (case l28 => k_is)
    (case c28 => k_is)
    (case k28 => k_is)
    (case a29 => k_is)
    (case l29 => k_is)
    (case c29 => k_is)
    (case k29 => k_is)
    (case a30 => k_is)
    (case l30 => k_is)
    (case c30 => k_is)
    (case k30 => k_is)
    (case a31 => k_is)
    (case l31 => k_is)
    (case c31 => k_is)
    (case k31 => k_is)
    (case a32 => k_is)
    (case l32 => k_is)
    (case c32 => k_is)
    (case k32 => k_is)
    (case a33 => k_is)
    (case l33 => k_is)
    (case c33 => k_is)
    (case k33 => k_is)