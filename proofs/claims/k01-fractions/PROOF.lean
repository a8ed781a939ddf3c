import PyProof.Rows.All
import Wide.All
import OpenK.AllK
import Wide.FinOn
import HandS.ForMost
import HandS.Exc
import HandS.WordsExc
import HandS.ExcOwn
import HandS.CallSlots
import HandS.Wide
import HandS.WideBits
import HandS.IsInst
import HandS.Text
import HandS.WordsDict
import HandS.Defaults
import HandS.Zip
import HandS.Head0
import HandS.Head1
import HandS.Head2
import HandS.HeadEnd
import HandS.HeadHook1
import HandS.HeadHook2
import PySem.Challenge.RW_gapweave_k01_fractions
set_option Elab.async false
set_option linter.all false
set_option maxRecDepth 100000
set_option maxHeartbeats 4000000
set_option autoImplicit false
/-! Plain data over the hand layer: what a body gives is a plain function of plain data. -/
namespace GW
open PySem L2

/-- plain data -/
inductive D where
  | non | bl (b : Bool) | int (i : Int) | str (x : Str)
  | tup (ds : List D) | lst (ds : List D) | dct (kvs : List (Key × D)) | obj (C : Addr) (fs : List (Str × D))
  | err (C : Addr) (fs : List (Str × Int))

abbrev AS := Addr → Prop
abbrev DS := List (Option D)

/-- what may be written -/
def Mk : HO → Bool
  | .lst _ => true
  | .dK _ => true
  | .ins _ _ _ => true
  | _ => false

/-- v stands for d; to the depth k the lists, dicts, instances are one's own (at A, in H), below that they stand in F -/
inductive Rp (K : PySem.W.Frag) (F H : Hp) : Nat → V → D → AS → Prop
  | non {k : Nat} {A : AS} : Rp K F H k .non .non A
  | bl {k : Nat} {A : AS} {b : Bool} : Rp K F H k (.bl b) (.bl b) A
  | int {k : Nat} {A : AS} {i : Int} : Rp K F H k (.int i) (.int i) A
  | str {k : Nat} {A : AS} {x : Str} : Rp K F H k (.str x) (.str x) A
  | tup {k : Nat} {A : AS} {p : Addr} {vs : List V} {ds : List D} (h : SqT K H p vs) (l : vs.length = ds.length) (c : ∀ (i : Nat) v d, vs[i]? = some v → ds[i]? = some d → Rp K F H 0 v d A) : Rp K F H k (.ref p) (.tup ds) A
  | lst {A : AS} {p : Addr} {vs : List V} {ds : List D} (h : SqL K F p vs) (l : vs.length = ds.length) (c : ∀ (i : Nat) v d, vs[i]? = some v → ds[i]? = some d → Rp K F H 0 v d A) : Rp K F H 0 (.ref p) (.lst ds) A
  | lstO {k : Nat} {A : AS} {p : Addr} {vs : List V} {ds : List D} (As : Nat → AS) (h : H p = some (.lst vs)) (hA : A p) (l : vs.length = ds.length) (c : ∀ (i : Nat) v d, vs[i]? = some v → ds[i]? = some d → Rp K F H k v d (As i))
      (s : ∀ (i : Nat) a, As i a → A a ∧ a ≠ p) (dj : ∀ (i j : Nat) a, As i a → As j a → i = j) : Rp K F H (k + 1) (.ref p) (.lst ds) A
  | dct {A : AS} {p : Addr} {kvs : List (Key × V)} {kds : List (Key × D)} (h : F p = some (.dK kvs)) (l : kvs.map (·.1) = kds.map (·.1)) (c : ∀ (i : Nat) v d, (kvs.map (·.2))[i]? = some v → (kds.map (·.2))[i]? = some d → Rp K F H 0 v d A) : Rp K F H 0 (.ref p) (.dct kds) A
  | dctO {k : Nat} {A : AS} {p : Addr} {kvs : List (Key × V)} {kds : List (Key × D)} (h : H p = some (.dK kvs)) (hA : A p) (l : kvs.map (·.1) = kds.map (·.1)) (c : ∀ (i : Nat) v d, (kvs.map (·.2))[i]? = some v → (kds.map (·.2))[i]? = some d → Rp K F H 0 v d A) : Rp K F H (k + 1) (.ref p) (.dct kds) A
  | obj {A : AS} {p C dx : Addr} {fs : List (Str × V)} {fds : List (Str × D)} (h : F p = some (.ins C dx fs)) (l : fs.map (·.1) = fds.map (·.1)) (c : ∀ (i : Nat) v d, (fs.map (·.2))[i]? = some v → (fds.map (·.2))[i]? = some d → Rp K F H 0 v d A) : Rp K F H 0 (.ref p) (.obj C fds) A
  | objO {k : Nat} {A : AS} {p C dx : Addr} {fs : List (Str × V)} {fds : List (Str × D)} (As : Nat → AS) (h : H p = some (.ins C dx fs)) (hA : A p) (l : fs.map (·.1) = fds.map (·.1)) (c : ∀ (i : Nat) v d, (fs.map (·.2))[i]? = some v → (fds.map (·.2))[i]? = some d → Rp K F H k v d (As i))
      (s : ∀ (i : Nat) a, As i a → A a ∧ a ≠ p) (dj : ∀ (i j : Nat) a, As i a → As j a → i = j) : Rp K F H (k + 1) (.ref p) (.obj C fds) A

theorem sqL_mono {K : PySem.W.Frag} {F G : Hp} {p : Addr} {vs : List V} (h : SqL K F p vs) (e : Same F G) : SqL K G p vs := e.seq h
theorem sqT_mono {K : PySem.W.Frag} {H H' : Hp} {p : Addr} {vs : List V} (h : SqT K H p vs) (e : ∀ a o, H a = some o → Mk o = false → H' a = some o) : SqT K H' p vs := by
  rcases h with (h | ⟨o, h⟩) | h
  · exact .inl (.inl (e _ _ h rfl))
  · exact .inl (.inr ⟨o, e _ _ h rfl⟩)
  · exact .inr h

section
variable {K : PySem.W.Frag} {F F' H H' : Hp} {k : Nat} {v : V} {d : D} {A A' : AS}
/-- kept, where what is one's own stands and the rest has grown -/
theorem Rp.mono (r : Rp K F H k v d A) (hF : Same F F') (hT : ∀ a o, H a = some o → Mk o = false → H' a = some o) (hA : ∀ a o, A a → H a = some o → H' a = some o) : Rp K F' H' k v d A := by
  induction r with
  | non => exact .non
  | bl => exact .bl
  | int => exact .int
  | str => exact .str
  | tup h l c ih => exact .tup (sqT_mono h hT) l fun i v d a b => ih i v d a b hA
  | lst h l c ih => exact .lst (sqL_mono h hF) l fun i v d a b => ih i v d a b hA
  | lstO As h hp l c s dj ih => exact .lstO As (hA _ _ hp h) hp l (fun i v d a b => ih i v d a b fun x o hx => hA x o (s i x hx).1) s dj
  | dct h l c ih => exact .dct (hF _ _ h) l fun i v d a b => ih i v d a b hA
  | dctO h hp l c ih => exact .dctO (hA _ _ hp h) hp l fun i v d a b => ih i v d a b hA
  | obj h l c ih => exact .obj (hF _ _ h) l fun i v d a b => ih i v d a b hA
  | objO As h hp l c s dj ih => exact .objO As (hA _ _ hp h) hp l (fun i v d a b => ih i v d a b fun x o hx => hA x o (s i x hx).1) s dj
/-- nothing is one's own at depth nought: any A -/
theorem Rp.zero (r : Rp K F H k v d A) (hk : k = 0) (A' : AS) : Rp K F H 0 v d A' := by
  induction r with
  | non => exact .non
  | bl => exact .bl
  | int => exact .int
  | str => exact .str
  | tup h l c ih => exact .tup h l fun i v d a b => ih i v d a b rfl
  | lst h l c ih => exact .lst h l fun i v d a b => ih i v d a b rfl
  | lstO => cases hk
  | dct h l c ih => exact .dct h l fun i v d a b => ih i v d a b rfl
  | dctO => cases hk
  | obj h l c ih => exact .obj h l fun i v d a b => ih i v d a b rfl
  | objO => cases hk
theorem Rp.z (r : Rp K F H 0 v d A) {A' : AS} : Rp K F H 0 v d A' := r.zero rfl A'
theorem Rp.sup (r : Rp K F H k v d A) (h : ∀ a, A a → A' a) : Rp K F H k v d A' := by
  induction r generalizing A' with
  | non => exact .non
  | bl => exact .bl
  | int => exact .int
  | str => exact .str
  | tup hh l c ih => exact .tup hh l fun i v d a b => (c i v d a b).z
  | lst hh l c ih => exact .lst hh l fun i v d a b => (c i v d a b).z
  | lstO As hh hp l c s dj ih => exact .lstO As hh (h _ hp) l c (fun i a x => ⟨h _ (s i a x).1, (s i a x).2⟩) dj
  | dct hh l c ih => exact .dct hh l fun i v d a b => (c i v d a b).z
  | dctO hh hp l c ih => exact .dctO hh (h _ hp) l fun i v d a b => (c i v d a b).z
  | obj hh l c ih => exact .obj hh l fun i v d a b => (c i v d a b).z
  | objO As hh hp l c s dj ih => exact .objO As hh (h _ hp) l c (fun i a x => ⟨h _ (s i a x).1, (s i a x).2⟩) dj
/-- all of it kept in G: read as what stands there -/
theorem Rp.frz (r : Rp K F H k v d A) {G : Hp} (hF : Same F G) (hA : ∀ a o, A a → H a = some o → G a = some o) {A' : AS} : Rp K G H 0 v d A' := by
  induction r generalizing A' with
  | non => exact .non
  | bl => exact .bl
  | int => exact .int
  | str => exact .str
  | tup h l c ih => exact .tup h l fun i v d a b => ih i v d a b hA
  | lst h l c ih => exact .lst (sqL_mono h hF) l fun i v d a b => ih i v d a b hA
  | lstO As h hp l c s dj ih => exact .lst (.inl (.inl (hA _ _ hp h))) l fun i v d a b => ih i v d a b fun x o hx => hA x o (s i x hx).1
  | dct h l c ih => exact .dct (hF _ _ h) l fun i v d a b => ih i v d a b hA
  | dctO h hp l c ih => exact .dct (hA _ _ hp h) l fun i v d a b => ih i v d a b hA
  | obj h l c ih => exact .obj (hF _ _ h) l fun i v d a b => ih i v d a b hA
  | objO As h hp l c s dj ih => exact .obj (hA _ _ hp h) l fun i v d a b => ih i v d a b fun x o hx => hA x o (s i x hx).1
end

/-! ### scalars, flat data -/
def scV : D → Option V
  | .non => some .non
  | .bl b => some (.bl b)
  | .int i => some (.int i)
  | .str x => some (.str x)
  | _ => none
mutual
def flat : D → Bool
  | .non => true
  | .bl _ => true
  | .int _ => true
  | .str _ => true
  | .tup ds => flats ds
  | _ => false
def flats : List D → Bool
  | [] => true
  | d :: ds => flat d && flats ds
end
theorem flats_get : ∀ {ds : List D} {i : Nat} {d : D}, flats ds = true → ds[i]? = some d → flat d = true
  | _ :: _, 0, _, h, e => by
    simp only [flats, Bool.and_eq_true] at h
    simp only [List.getElem?_cons_zero, Option.some.injEq] at e
    subst e; exact h.1
  | _ :: r, i + 1, _, h, e => by
    simp only [flats, Bool.and_eq_true] at h
    exact flats_get (i := i) h.2 (by simpa using e)
theorem Rp.flat_any {K : PySem.W.Frag} {F H : Hp} {k : Nat} {v : V} {d : D} {A : AS} (r : Rp K F H k v d A) (h : flat d = true) (F' : Hp) (k' : Nat) (A' : AS) : Rp K F' H k' v d A' := by
  induction r generalizing k' A' with
  | non => exact .non
  | bl => exact .bl
  | int => exact .int
  | str => exact .str
  | tup hh l c ih =>
    simp only [flat] at h
    exact .tup hh l fun i v d a b => ih i v d a b (flats_get h b) 0 A'
  | lst => cases h
  | lstO => cases h
  | dct => cases h
  | dctO => cases h
  | obj => cases h
  | objO => cases h
theorem Rp.of_sc {K : PySem.W.Frag} {F H : Hp} {k : Nat} {v : V} {d : D} {A : AS} (h : scV d = some v) : Rp K F H k v d A := by
  cases d <;> simp [scV] at h <;> subst h <;> constructor
theorem Rp.sc {K : PySem.W.Frag} {F H : Hp} {k : Nat} {v w : V} {d : D} {A : AS} (r : Rp K F H k v d A) (h : scV d = some w) : v = w := by
  cases r <;> simp [scV] at h <;> exact h
section
variable {K : PySem.W.Frag} {F H : Hp} {k : Nat} {v : V} {A : AS}
theorem Rp.int_ {i : Int} (r : Rp K F H k v (.int i) A) : v = .int i := r.sc rfl
theorem Rp.bl_ {b : Bool} (r : Rp K F H k v (.bl b) A) : v = .bl b := r.sc rfl
theorem Rp.str_ {x : Str} (r : Rp K F H k v (.str x) A) : v = .str x := r.sc rfl
theorem Rp.non_ (r : Rp K F H k v .non A) : v = .non := r.sc rfl
end

/-! ### the state -/
structure Ctx where
  K : PySem.W.Frag
  /-- the counting cell, where the def is handed one -/
  q : Option Addr
  /-- how deep a slot's thing is one's own -/
  T : Nat → Nat
  /-- slots whose value stays -/
  pn : Nat → Option V

structure Sim (C : Ctx) (F : Hp) (B : AS) (σ : L2.St) (H : Hp) (n : Int) (ds : DS) : Prop where
  fh : Same F H
  bok : ∀ a, B a → F a = none ∧ ∃ o, H a = some o ∧ Mk o = true
  cell : ∀ q, C.q = some q → B q ∧ H q = some (.lst [.int n])
  pin : ∀ i v, C.pn i = some v → σ[i]? = some (some v)
  len : σ.length = ds.length
  rep : ∃ A : Nat → AS, (∀ (i : Nat) d, ds[i]? = some (some d) → ∃ v, σ[i]? = some (some v) ∧ Rp C.K F H (C.T i) v d (A i)) ∧ (∀ i a, A i a → B a ∧ C.q ≠ some a) ∧ (∀ i j a, A i a → A j a → i = j)

/-- what the reckoning of an expression does to the heap -/
structure GoE (q : Option Addr) (F H F' H' : Hp) : Prop where
  ff : Same F F'
  fh : Same F' H'
  hh : ∀ a o, H a = some o → q ≠ some a → H' a = some o
  ht : ∀ a o, H a = some o → Mk o = false → H' a = some o
  nf : ∀ a o, F a = none → H a = some o → F' a = none
theorem none_some {α β : Type} {f : α → Option β} {g : α → Option β} (dm : ∀ a o, f a = some o → ∃ o', g a = some o') {a : α} (h : g a = none) : f a = none := by
  cases e : f a with
  | none => rfl
  | some o => obtain ⟨o', e'⟩ := dm a o e; rw [h] at e'; cases e'
section
variable {q : Option Addr} {F H F1 H1 F2 H2 : Hp}
theorem GoE.refl (h : Same F H) : GoE q F H F H := ⟨Same.refl _, h, fun _ _ e _ => e, fun _ _ e _ => e, fun _ _ e _ => e⟩
/-- the cell stands as a list all along -/
structure GoC (q : Option Addr) (F H F' H' : Hp) : Prop where
  go : GoE q F H F' H'
  dm : ∀ a o, H a = some o → ∃ o', H' a = some o'
theorem GoC.refl (h : Same F H) : GoC q F H F H := ⟨GoE.refl h, fun _ o e => ⟨o, e⟩⟩
theorem GoC.trans (a : GoC q F H F1 H1) (b : GoC q F1 H1 F2 H2) : GoC q F H F2 H2 where
  go := {
    ff := a.go.ff.trans b.go.ff
    fh := b.go.fh
    hh := fun x o e n => b.go.hh x o (a.go.hh x o e n) n
    ht := fun x o e n => b.go.ht x o (a.go.ht x o e n) n
    nf := fun x o n e => by
      obtain ⟨o', e'⟩ := a.dm x o e
      exact b.go.nf x o' (a.go.nf x o n e) e' }
  dm := fun x o e => by
    obtain ⟨o', e'⟩ := a.dm x o e
    exact b.dm x o' e'
theorem GoC.free (a : GoC q F H F1 H1) {x : Addr} (h : H1 x = none) : H x = none := none_some a.dm h
/-- a new object, kept in what stands | one's own -/
theorem GoC.new {p : Addr} {o : HO} (fh : Same F H) (hp : H p = none) : GoC q F H (upd F p o) (upd H p o) where
  go := {
    ff := fun a u e => by rw [upd_ne (ne_of_none (fh a u e) hp)]; exact e
    fh := fun a u e => by
      by_cases h : a = p
      · subst h; rw [upd_same] at e ⊢; exact e
      · rw [upd_ne h] at e ⊢; exact fh a u e
    hh := fun a u e _ => by rw [upd_ne (ne_of_none e hp)]; exact e
    ht := fun a u e _ => by rw [upd_ne (ne_of_none e hp)]; exact e
    nf := fun a u n e => by rw [upd_ne (ne_of_none e hp)]; exact n }
  dm := fun a u e => ⟨u, by rw [upd_ne (ne_of_none e hp)]; exact e⟩
theorem GoC.newO {p : Addr} {o : HO} (fh : Same F H) (hp : H p = none) : GoC q F H F (upd H p o) where
  go := {
    ff := Same.refl _
    fh := fun a u e => by rw [upd_ne (ne_of_none (fh a u e) hp)]; exact fh a u e
    hh := fun a u e _ => by rw [upd_ne (ne_of_none e hp)]; exact e
    ht := fun a u e _ => by rw [upd_ne (ne_of_none e hp)]; exact e
    nf := fun a u n e => n }
  dm := fun a u e => ⟨u, by rw [upd_ne (ne_of_none e hp)]; exact e⟩
end

/-- where a thing is read: what stands | all but the cell (to be read now) -/
inductive Rg where
  | fz | bo
def rg (q : Option Addr) : Rg → Hp → Hp → Hp
  | .fz, F, _ => F
  | .bo, _, H => fun a => if q = some a then none else H a
section
variable {q : Option Addr} {F H F1 H1 : Hp}
theorem rg_same {g : Rg} (fh : Same F H) : Same (rg q g F H) H := by
  cases g with
  | fz => exact fh
  | bo =>
    intro a o e
    have e : (if q = some a then none else H a) = some o := e
    by_cases h : q = some a
    · rw [if_pos h] at e; cases e
    · rw [if_neg h] at e; exact e
theorem rg_go {g : Rg} (a : GoE q F H F1 H1) : Same (rg q g F H) (rg q g F1 H1) := by
  cases g with
  | fz => exact a.ff
  | bo =>
    intro x o e
    have e : (if q = some x then none else H x) = some o := e
    show (if q = some x then none else H1 x) = some o
    by_cases h : q = some x
    · rw [if_pos h] at e; cases e
    · rw [if_neg h] at e ⊢
      exact a.hh x o e h
end

/-- what is new -/
def Fr (F' H H' : Hp) (A : AS) : Prop := ∀ a, A a → H a = none ∧ F' a = none ∧ ∃ o, H' a = some o ∧ Mk o = true
theorem Fr.no {F' H H' : Hp} : Fr F' H H' (fun _ => False) := fun _ h => h.elim

section
variable {C : Ctx} {F F' H H' : Hp} {B : AS} {σ : L2.St} {n n' : Int} {ds : DS} {k : Nat} {v : V} {d : D} {A : AS}
theorem Sim.go (S : Sim C F B σ H n ds) (g : GoC C.q F H F' H') (hc : ∀ q, C.q = some q → H' q = some (.lst [.int n'])) : Sim C F' B σ H' n' ds where
  fh := g.go.fh
  bok := fun a ha => by
    obtain ⟨h1, o, h2, h3⟩ := S.bok a ha
    refine ⟨g.go.nf a o h1 h2, ?_⟩
    by_cases hq : C.q = some a
    · exact ⟨_, hc a hq, rfl⟩
    · exact ⟨o, g.go.hh a o h2 hq, h3⟩
  cell := fun q hq => ⟨(S.cell q hq).1, hc q hq⟩
  pin := S.pin
  len := S.len
  rep := by
    obtain ⟨A, h1, h2, h3⟩ := S.rep
    refine ⟨A, fun i d e => ?_, h2, h3⟩
    obtain ⟨v, e1, r⟩ := h1 i d e
    exact ⟨v, e1, r.mono g.go.ff g.go.ht fun a o ha e => g.go.hh a o e (h2 i a ha).2⟩
/-- the cell untouched -/
theorem Sim.go0 (S : Sim C F B σ H n ds) (g : GoC none F H F' H') : Sim C F' B σ H' n ds :=
  S.go ⟨⟨g.go.ff, g.go.fh, fun a o e _ => g.go.hh a o e (by simp), g.go.ht, g.go.nf⟩, g.dm⟩ fun q hq => g.go.hh _ _ (S.cell q hq).2 (by simp)
theorem GoC.of0 {q : Option Addr} (g : GoC none F H F' H') : GoC q F H F' H' := ⟨⟨g.go.ff, g.go.fh, fun a o e _ => g.go.hh a o e (by simp), g.go.ht, g.go.nf⟩, g.dm⟩
theorem Sim.nq (S : Sim C F B σ H n ds) {q : Addr} (hq : C.q = some q) : H q ≠ none := by rw [(S.cell q hq).2]; simp
/-- a thing in hand stands while another is reckoned -/
theorem Rp.go {F0 H0 : Hp} {g : Rg} (r : Rp C.K (rg C.q g F H) H k v d A) (G : GoC C.q F H F' H') (hA : ∀ a, A a → C.q ≠ some a) : Rp C.K (rg C.q g F' H') H' k v d A :=
  r.mono (rg_go G.go) G.go.ht fun a o ha e => G.go.hh a o e (hA a ha)
theorem Rp.go0 {g : Rg} (r : Rp C.K (rg C.q g F H) H 0 v d A) (G : GoC C.q F H F' H') {A' : AS} : Rp C.K (rg C.q g F' H') H' 0 v d A' :=
  Rp.z ((r.z (A' := fun _ => False)).mono (rg_go G.go) G.go.ht fun a o ha e => ha.elim)
/-- what stands may be read now -/
theorem Rp.read (S : Sim C F B σ H n ds) (r : Rp C.K F H k v d A) (hA : ∀ a, A a → C.q ≠ some a) {A' : AS} : Rp C.K (rg C.q .bo F H) H 0 v d A' := by
  refine r.frz (fun a o e => ?_) fun a o ha e => ?_
  · show (if C.q = some a then none else H a) = some o
    rw [if_neg fun hq => ?_]
    · exact S.fh a o e
    · obtain ⟨h1, _⟩ := S.bok a (S.cell a hq).1
      rw [h1] at e; cases e
  · show (if C.q = some a then none else H a) = some o
    rw [if_neg (hA a ha)]
    exact e
theorem Rp.any (S : Sim C F B σ H n ds) {g : Rg} (r : Rp C.K F H 0 v d A) {A' : AS} : Rp C.K (rg C.q g F H) H 0 v d A' := by
  cases g with
  | fz => exact r.z
  | bo => exact Rp.read S (r.z (A' := fun _ => False)) fun _ h => h.elim
end
end GW

namespace GW
open PySem L2

inductive Ot (α : Type) where
  | ok (a : α) | ex (C : Addr) (fs : List (Str × Int))
abbrev Mo (α : Type) := Int → DS → Option (Ot α × Int)
abbrev M := Mo D
def mb {α β : Type} (m : Mo α) (f : α → Mo β) : Mo β := fun n ds => match m n ds with
  | none => none
  | some (.ex C fs, n1) => some (.ex C fs, n1)
  | some (.ok a, n1) => f a n1 ds
def ret {α : Type} (o : Option α) : Mo α := fun n _ => match o with
  | none => none
  | some d => some (.ok d, n)

def ExR (H : Hp) (od : Option Addr) (fs : List (Str × Int)) : Prop := (fs = [] ∧ od = none) ∨ ∃ d, od = some d ∧ H d = some (.xd (fs.map fun p => (p.1, V.int p.2)))

def WL (C : Ctx) (wx : WX) {α β : Type} (R : Hp → Hp → Hp → β → α → Prop) (m : Mo α) (F : Hp) (B : AS) (n : Int) (ds : DS) (σ : L2.St) (H : Hp) (Q : β → Hp → Prop) : Prop :=
  match m n ds with
  | none => False
  | some (.ok d, n') => ∀ v F' H', GoC C.q F H F' H' → Sim C F' B σ H' n' ds → R H F' H' v d → Q v H'
  | some (.ex c fs, n') => ∀ F' H' od, GoC C.q F H F' H' → Sim C F' B σ H' n' ds → ExR H' od fs → wx (.ref c) od σ H'
def WW (C : Ctx) (wx : WX) {α β : Type} (R : Hp → Hp → Hp → β → α → Prop) (m : Mo α) : L2.St → Hp → (β → Hp → Prop) → Prop :=
  fun σ H Q => ∃ F B n ds, Sim C F B σ H n ds ∧ WL C wx R m F B n ds σ H Q

def RV (C : Ctx) (g : Rg) (k : Nat) : Hp → Hp → Hp → V → D → Prop := fun H F' H' v d => ∃ A, Rp C.K (rg C.q g F' H') H' k v d A ∧ Fr F' H H' A
def RT : Hp → Hp → Hp → Bool → Bool → Prop := fun _ _ _ v d => v = d
abbrev RpL (K : PySem.W.Frag) (G H : Hp) (vs : List V) (ds : List D) : Prop := vs.length = ds.length ∧ ∀ (i : Nat) v d, vs[i]? = some v → ds[i]? = some d → Rp K G H 0 v d (fun _ => False)
def RA (C : Ctx) (g : Rg) : Hp → Hp → Hp → List V → List D → Prop := fun _ F' H' vs ds => RpL C.K (rg C.q g F' H') H' vs ds
abbrev W (C : Ctx) (wx : WX) (g : Rg) (k : Nat) (m : M) : TE := WW C wx (RV C g k) m
abbrev WT (C : Ctx) (wx : WX) (m : Mo Bool) : TT := WW C wx RT m
abbrev WA (C : Ctx) (wx : WX) (g : Rg) (m : Mo (List D)) : TA := WW C wx (RA C g) m

section
variable {C : Ctx} {wx : WX} {α β γ δ : Type} {R : Hp → Hp → Hp → β → α → Prop} {m : Mo α} {F : Hp} {B : AS} {n : Int} {ds : DS} {σ : L2.St} {H : Hp} {Q Q' : β → Hp → Prop}
theorem WL.mono (h : WL C wx R m F B n ds σ H Q) (hQ : ∀ v H', Q v H' → Q' v H') : WL C wx R m F B n ds σ H Q' := by
  unfold WL at h ⊢
  cases e : m n ds with
  | none => rw [e] at h; exact h
  | some p =>
    rw [e] at h
    obtain ⟨o, n'⟩ := p
    cases o with
    | ok d => exact fun v F' H' g S r => hQ v H' (h v F' H' g S r)
    | ex c fs => exact h
theorem WL.bind {f : α → Mo γ} {R2 : Hp → Hp → Hp → δ → γ → Prop} {P : δ → Hp → Prop} (h : WL C wx R2 (mb m f) F B n ds σ H P)
    (tr : ∀ F1 H1 F2 H2 v d, GoC C.q F H F1 H1 → R2 H1 F2 H2 v d → R2 H F2 H2 v d) :
    WL C wx R m F B n ds σ H fun v H1 => ∃ F1 n1 d, GoC C.q F H F1 H1 ∧ Sim C F1 B σ H1 n1 ds ∧ R H F1 H1 v d ∧ WL C wx R2 (f d) F1 B n1 ds σ H1 P := by
  unfold WL at h ⊢
  cases e : m n ds with
  | none => simp only [mb, e] at h
  | some p =>
    obtain ⟨o, n'⟩ := p
    cases o with
    | ex c fs => simp only [mb, e] at h; exact h
    | ok d =>
      simp only [mb, e] at h
      intro v F1 H1 g S r
      refine ⟨F1, n', d, g, S, r, ?_⟩
      cases e2 : f d n' ds with
      | none => rw [e2] at h; exact h
      | some p2 =>
        rw [e2] at h
        obtain ⟨o2, n2⟩ := p2
        cases o2 with
        | ok d2 => exact fun v2 F2 H2 g2 S2 r2 => h v2 F2 H2 (g.trans g2) S2 (tr F1 H1 F2 H2 v2 d2 g r2)
        | ex c fs => exact fun F2 H2 od g2 S2 r2 => h F2 H2 od (g.trans g2) S2 r2
theorem RV.tr {g : Rg} {k : Nat} {F1 H1 F2 H2 : Hp} {v : V} {d : D} (G : GoC C.q F H F1 H1) (r : RV C g k H1 F2 H2 v d) : RV C g k H F2 H2 v d := by
  obtain ⟨A, r, f⟩ := r
  exact ⟨A, r, fun a ha => ⟨G.free (f a ha).1, (f a ha).2⟩⟩
theorem WW.imp {t : L2.St → Hp → (β → Hp → Prop) → Prop} (h : ∀ F B n ds, Sim C F B σ H n ds → WL C wx R m F B n ds σ H Q → t σ H Q) (w : WW C wx R m σ H Q) : t σ H Q := by
  obtain ⟨F, B, n, ds, S, h2⟩ := w
  exact h F B n ds S h2
end

section
variable {X : Cx} {e : Expr} {es : List Expr}
theorem _root_.L2.PE.wk {t t' : TE} (h : PE X e t) (w : ∀ σ H Q, t' σ H Q → t σ H Q) : PE X e t' := ⟨fun pins s σ H Q I q => h.run pins s σ H Q I (w _ _ _ q)⟩
theorem _root_.L2.PT.wk {t t' : TT} (h : PT X e t) (w : ∀ σ H Q, t' σ H Q → t σ H Q) : PT X e t' := ⟨fun pins s σ H Q I q => h.run pins s σ H Q I (w _ _ _ q)⟩
theorem _root_.L2.PW.wk {t t' : TT} (h : PW X e t) (w : ∀ σ H Q, t' σ H Q → t σ H Q) : PW X e t' := ⟨fun whole pins s σ H Q I q => h.run whole pins s σ H Q I (w _ _ _ q)⟩
theorem _root_.L2.PA.wk {t t' : TA} (h : PA X es t) (w : ∀ σ H Q, t' σ H Q → t σ H Q) : PA X es t' := ⟨fun pos pins s σ H Q I q => h.run pos pins s σ H Q I (w _ _ _ q)⟩
theorem _root_.L2.PS.wk {st : Stmt} {t t' : TS} (h : PS X st t) (w : ∀ D σ H, t' D σ H → t D σ H) : PS X st t' := ⟨fun pins s σ H D I q => h.run pins s σ H D I (w _ _ _ q)⟩
theorem _root_.L2.PSs.wk {st : List Stmt} {t t' : TS} (h : PSs X st t) (w : ∀ D σ H, t' D σ H → t D σ H) : PSs X st t' := ⟨fun pins s σ H D I q => h.run pins s σ H D I (w _ _ _ q)⟩
end

/-! ### what a value's reckoning ends with -/
section
variable {C : Ctx} {wx : WX} {g : Rg} {k : Nat} {F : Hp} {B : AS} {n : Int} {ds : DS} {σ : L2.St} {H : Hp} {Q : VK} {d : D} {o : Option D}
theorem WL.retE {α β : Type} {R : Hp → Hp → Hp → β → α → Prop} {o : Option α} {Q : β → Hp → Prop} (h : WL C wx R (ret o) F B n ds σ H Q) : ∃ d, o = some d ∧ ∀ v F' H', GoC C.q F H F' H' → Sim C F' B σ H' n ds → R H F' H' v d → Q v H' := by
  unfold WL at h
  cases o with
  | none => exact h.elim
  | some d => exact ⟨d, rfl, h⟩
/-- a scalar -/
theorem WL.sc (S : Sim C F B σ H n ds) (h : WL C wx (RV C g k) (ret o) F B n ds σ H Q) : ∃ d, o = some d ∧ ∀ v, scV d = some v → Q v H := by
  obtain ⟨d, e, q⟩ := h.retE
  exact ⟨d, e, fun v hv => q v F H (GoC.refl S.fh) S ⟨fun _ => False, Rp.of_sc hv, Fr.no⟩⟩
/-- what is told as it stands -/
theorem WL.same {A : AS} (S : Sim C F B σ H n ds) (h : WL C wx (RV C g 0) (ret o) F B n ds σ H Q) : ∃ d, o = some d ∧ ∀ v, Rp C.K (rg C.q g F H) H 0 v d A → Q v H := by
  obtain ⟨d, e, q⟩ := h.retE
  exact ⟨d, e, fun v hv => q v F H (GoC.refl S.fh) S ⟨fun _ => False, hv.z, Fr.no⟩⟩
end

/-! ### names, constants -/
def mVar (i : Nat) : M := fun n ds => match ds[i]? with
  | some (some d) => some (.ok d, n)
  | _ => none
section
variable {X : Cx} {C : Ctx} {wx : WX} {g : Rg} {k : Nat} {e : Expr}
theorem ve_var {i : Nat} (h : PE X e (tVar i)) (hT : C.T i = 0 ∨ g = .bo) : PE X e (W C wx g 0 (mVar i)) := by
  refine h.wk fun σ H Q w => w.imp fun F B n ds S h => ?_
  unfold WL mVar at h
  cases e : ds[i]? with
  | none => rw [e] at h; exact h.elim
  | some x =>
    cases x with
    | none => rw [e] at h; exact h.elim
    | some d =>
      rw [e] at h
      obtain ⟨A, h1, h2, h3⟩ := S.rep
      obtain ⟨v, hv, r⟩ := h1 i d e
      refine ⟨v, hv, h v F H (GoC.refl S.fh) S ⟨fun _ => False, ?_, Fr.no⟩⟩
      rcases hT with hT | hT
      · rw [hT] at r; exact Rp.any S r
      · subst hT; exact Rp.read S r fun a ha => (h2 i a ha).2
def mC (d : D) : M := ret (some d)
theorem ve_c {v : V} {d : D} (h : PE X e (tC v)) (hd : scV d = some v) : PE X e (W C wx g k (mC d)) := by
  refine h.wk fun σ H Q w => w.imp fun F B n ds S h => ?_
  obtain ⟨d', e, q⟩ := h.sc S
  cases e
  exact q v hd
theorem ve_int {i : Int} {j : Nat} {pos : Pos} : PE X (.Constant (.int i) j pos) (W C wx g k (mC (.int i))) := ve_c pe_int rfl
theorem ve_str {x : Str} {j : Nat} {pos : Pos} : PE X (.Constant (.str x) j pos) (W C wx g k (mC (.str x))) := ve_c pe_str rfl
theorem ve_bl {x : Bool} {j : Nat} {pos : Pos} : PE X (.Constant (.bool x) j pos) (W C wx g k (mC (.bl x))) := ve_c pe_bl rfl
theorem ve_non {j : Nat} {pos : Pos} : PE X (.Constant .none j pos) (W C wx g k (mC .non)) := ve_c pe_non rfl

/-! ### from one way of standing to another -/
theorem ve_bo {m : M} (h : PE X e (W C wx .fz k m)) : PE X e (W C wx .bo 0 m) := by
  refine h.wk fun σ H Q w => ?_
  obtain ⟨F, B, n, ds, S, h⟩ := w
  refine ⟨F, B, n, ds, S, ?_⟩
  unfold WL at h ⊢
  cases e : m n ds with
  | none => rw [e] at h; exact h
  | some p =>
    rw [e] at h
    obtain ⟨o, n'⟩ := p
    cases o with
    | ex c fs => exact h
    | ok d =>
      rintro v F' H' G S' ⟨A, r, f⟩
      exact h v F' H' G S' ⟨fun _ => False, Rp.read S' r fun a ha q => by
        have := (f a ha).1
        exact S.nq q this, Fr.no⟩
/-- a thing that is one's own is let stand -/
theorem W.frz {m : M} {σ : L2.St} {H : Hp} {Q : VK} (w : W C wx .fz 0 m σ H Q) : W C wx .fz k m σ H Q := by
  obtain ⟨F, B, n, ds, S, h⟩ := w
  refine ⟨F, B, n, ds, S, ?_⟩
  unfold WL at h ⊢
  cases e : m n ds with
  | none => rw [e] at h; exact h
  | some p =>
    rw [e] at h
    obtain ⟨o, n'⟩ := p
    cases o with
    | ex c fs => exact h
    | ok d =>
      rintro v F' H' G S' ⟨A, r, f⟩
      classical
      let G' : Hp := fun a => if A a then H' a else F' a
      have hA : ∀ a, A a → G' a = H' a := fun a ha => if_pos ha
      have hN : ∀ a, ¬ A a → G' a = F' a := fun a ha => if_neg ha
      have ff : Same F' G' := fun a o e => by
        by_cases ha : A a
        · rw [(f a ha).2.1] at e; cases e
        · rw [hN a ha]; exact e
      have fh : Same G' H' := fun a o e => by
        by_cases ha : A a
        · rw [hA a ha] at e; exact e
        · rw [hN a ha] at e; exact S'.fh a o e
      have g2 : GoC C.q F H G' H' := ⟨⟨G.go.ff.trans ff, fh, G.go.hh, G.go.ht, fun a o n e => by
        by_cases ha : A a
        · have := (f a ha).1; rw [e] at this; cases this
        · rw [hN a ha]; exact G.go.nf a o n e⟩, G.dm⟩
      have S2 : Sim C G' B σ H' n' ds := ⟨fh, fun a ha => ⟨by
          by_cases hA' : A a
          · obtain ⟨_, o, h2, _⟩ := S.bok a ha
            have := (f a hA').1
            rw [h2] at this; cases this
          · rw [hN a hA']; exact (S'.bok a ha).1, (S'.bok a ha).2⟩, S'.cell, S'.pin, S'.len, by
        obtain ⟨A2, h1, h2, h3⟩ := S'.rep
        exact ⟨A2, fun i d e => by
          obtain ⟨v, e1, r⟩ := h1 i d e
          exact ⟨v, e1, r.mono ff (fun _ _ e _ => e) fun _ _ _ e => e⟩, h2, h3⟩⟩
      exact h v G' H' g2 S2 ⟨fun _ => False, r.frz ff fun a o ha e => by rw [hA a ha]; exact e, Fr.no⟩
theorem ve_frz {m : M} (h : PE X e (W C wx .fz k m)) : PE X e (W C wx .fz 0 m) := h.wk fun σ H Q w => W.frz w
def mFlat (m : M) : M := mb m fun d => ret (if flat d = true then some d else none)
theorem ve_flat {m : M} (h : PE X e (W C wx .bo 0 m)) : PE X e (W C wx g k (mFlat m)) := by
  refine h.wk fun σ H Q w => ?_
  obtain ⟨F, B, n, ds, S, h⟩ := w
  refine ⟨F, B, n, ds, S, (h.bind fun F1 H1 F2 H2 v d G r => r.tr G).mono fun v H1 ⟨F1, n1, d, G, S1, ⟨A, r, f⟩, h1⟩ => ?_⟩
  obtain ⟨d', e1, q⟩ := h1.retE
  by_cases hf : flat d = true
  · rw [if_pos hf] at e1
    cases e1
    exact q v F1 H1 (GoC.refl S1.fh) S1 ⟨fun _ => False, r.flat_any hf _ _ _, Fr.no⟩
  · rw [if_neg hf] at e1; cases e1
end

/-! ### operators -/
section
variable {X : Cx} {C : Ctx} {wx : WX} {g : Rg} {k : Nat} {a b c e : Expr} {pos : Pos}
/-- two values, then what they make -/
def m2 (ma mc : M) (o : D → D → Option D) : M := mb ma fun x => mb mc fun y => ret (o x y)
def m1 (ma : M) (o : D → Option D) : M := mb ma fun x => ret (o x)
/-- an operation on values that gives a scalar: r allows it where o tells one -/
def OpS (K : PySem.W.Frag) (r : R2) (o : D → D → Option D) : Prop := ∀ (G H : Hp) (x y : V) (a b d : D) (A A' : AS), Same G H → Rp K G H 0 x a A → Rp K G H 0 y b A' → o a b = some d → ∃ v, scV d = some v ∧ ∀ Q : VK, Q v H → r x y H Q
def UnS (K : PySem.W.Frag) (r : V → Hp → VK → Prop) (o : D → Option D) : Prop := ∀ (G H : Hp) (x : V) (a d : D) (A : AS), Same G H → Rp K G H 0 x a A → o a = some d → ∃ v, scV d = some v ∧ ∀ Q : VK, Q v H → r x H Q
theorem tOp_of {ma mc : M} {r : R2} {o : D → D → Option D} (ho : OpS C.K r o) {σ : L2.St} {H : Hp} {Q : VK} (w : W C wx g k (m2 ma mc o) σ H Q) : tOp r (W C wx .bo 0 ma) (W C wx .bo 0 mc) σ H Q := by
  refine w.imp (t := fun σ H Q => tOp r _ _ σ H Q) fun F B n ds S h => ?_
  refine ⟨F, B, n, ds, S, (h.bind fun F1 H1 F2 H2 v d G r => r.tr G).mono fun x H1 ⟨F1, n1, da, G1, S1, ⟨A1, r1, f1⟩, h1⟩ => ?_⟩
  refine ⟨F1, B, n1, ds, S1, (h1.bind fun F1 H1 F2 H2 v d G r => r.tr G).mono fun y H2 ⟨F2, n2, db, G2, S2, ⟨A2, r2, f2⟩, h2⟩ => ?_⟩
  obtain ⟨d, e, q⟩ := h2.sc S2
  have r1' : Rp C.K (rg C.q .bo F2 H2) H2 0 x da (fun _ => False) := Rp.go0 (g := .bo) r1 G2
  obtain ⟨v, hv, hr⟩ := ho _ _ x y da db d _ _ (rg_same S2.fh) r1' r2 e
  exact hr Q (q v hv)
theorem ve_op {op : Operator} {ma mc : M} {r : R2} {o : D → D → Option D} (hr : OpR X (binaryOp op) r) (ho : OpS C.K r o) (ha : PE X a (W C wx .bo 0 ma)) (hb : PE X b (W C wx .bo 0 mc)) : PE X (.BinOp a op b pos) (W C wx g k (m2 ma mc o)) :=
  (pe_op hr ha hb).wk fun σ H Q w => tOp_of ho w
theorem ve_cmp {op : CmpOp} {ma mc : M} {r : R2} {o : D → D → Option D} (hr : OpR X (compareOp op) r) (ho : OpS C.K r o) (ha : PE X a (W C wx .bo 0 ma)) (hb : PE X b (W C wx .bo 0 mc)) (hm : behindInMarks op b = false) : PE X (.Compare a [op] [b] pos) (W C wx g k (m2 ma mc o)) :=
  (pe_cmpR hr ha hb hm).wk fun σ H Q w => tOp_of ho w
theorem tUn_of {ma : M} {r : V → Hp → VK → Prop} {o : D → Option D} (ho : UnS C.K r o) {σ : L2.St} {H : Hp} {Q : VK} (w : W C wx g k (m1 ma o) σ H Q) : tUn r (W C wx .bo 0 ma) σ H Q := by
  refine w.imp (t := fun σ H Q => tUn r _ σ H Q) fun F B n ds S h => ?_
  refine ⟨F, B, n, ds, S, (h.bind fun F1 H1 F2 H2 v d G r => r.tr G).mono fun x H1 ⟨F1, n1, da, G1, S1, ⟨A1, r1, f1⟩, h1⟩ => ?_⟩
  obtain ⟨d, e, q⟩ := h1.sc S1
  obtain ⟨v, hv, hr⟩ := ho _ _ x da d _ (rg_same S1.fh) r1 e
  exact hr Q (q v hv)
theorem ve_un {op : UnaryOp} {ma : M} {r : V → Hp → VK → Prop} {o : D → Option D} (hr : UnR X (unaryOp op) r) (ho : UnS C.K r o) (ha : PE X a (W C wx .bo 0 ma)) : PE X (.UnaryOp op a pos) (W C wx g k (m1 ma o)) :=
  (pe_un hr ha).wk fun σ H Q w => tUn_of ho w
end

/-! ### ints and texts -/
def i64 (i : Int) : Bool := decide (-18446744073709551616 < i) && decide (i < 18446744073709551616)
def mulOk (i j : Int) : Bool := i64 i || i64 j || decide (i.natAbs.log2 + j.natAbs.log2 < 1000000)
def divOk (j : Int) : Bool := decide (0 < j) && decide (j.natAbs.log2 < 9000)
def powOk (i j : Int) : Bool := decide (0 ≤ j) && decide (j ≤ 1000000) && decide (i.natAbs < 18446744073709551616)
def oAdd : D → D → Option D
  | .int i, .int j => some (.int (i + j))
  | .str x, .str y => if x.length + y.length ≤ sizeLine then some (.str (x ++ y)) else none
  | _, _ => none
def oSub : D → D → Option D
  | .int i, .int j => some (.int (i - j))
  | _, _ => none
def oMul : D → D → Option D
  | .int i, .int j => if mulOk i j = true then some (.int (i * j)) else none
  | _, _ => none
def oDiv : D → D → Option D
  | .int i, .int j => if divOk j = true then some (.int (i / j)) else none
  | _, _ => none
def oMod : D → D → Option D
  | .int i, .int j => if 0 < j then some (.int (i % j)) else none
  | _, _ => none
def oPow : D → D → Option D
  | .int i, .int j => if powOk i j = true then some (.int (i ^ j.toNat)) else none
  | _, _ => none
def oNeg : D → Option D
  | .int i => some (.int (-i))
  | _ => none
def rAddIS : R2 := fun x y H Q => (rI0 fun i j => .int (i + j)) x y H Q ∨ (fun x y H Q => ∃ i j, x = .str i ∧ y = .str j ∧ i.length + j.length ≤ sizeLine ∧ Q (.str (i ++ j)) H : R2) x y H Q
def rMulW : R2 := fun x y H Q => (rI CMul fun i j => .int (i * j)) x y H Q ∨ (rI CMulW fun i j => .int (i * j)) x y H Q
section
variable {K : PySem.W.Frag} {X : Cx}
theorem op_addIS : OpR X (binaryOp .Add) rAddIS := op_add.or op_add_str
theorem op_mulIW : OpR X (binaryOp .Mult) rMulW := op_mul.or op_mulW
theorem os_add : OpS K rAddIS oAdd := by
  intro G H x y a b d A A' hs ra rb e
  unfold oAdd at e
  split at e
  · cases e
    exact ⟨_, rfl, fun Q q => .inl ⟨_, _, ra.int_, rb.int_, q⟩⟩
  · split at e
    · rename_i hl
      cases e
      exact ⟨_, rfl, fun Q q => .inr ⟨_, _, ra.str_, rb.str_, hl, q⟩⟩
    · cases e
  · cases e
theorem os_sub : OpS K (rI0 fun i j => .int (i - j)) oSub := by
  intro G H x y a b d A A' hs ra rb e
  unfold oSub at e
  split at e
  · cases e
    exact ⟨_, rfl, fun Q q => ⟨_, _, ra.int_, rb.int_, q⟩⟩
  · cases e
theorem os_mul : OpS K rMulW oMul := by
  intro G H x y a b d A A' hs ra rb e
  unfold oMul at e
  split at e
  · split at e
    · rename_i hl
      cases e
      refine ⟨_, rfl, fun Q q => ?_⟩
      unfold mulOk at hl
      rw [Bool.or_eq_true, Bool.or_eq_true] at hl
      rcases hl with (hl | hl) | hl
      · unfold i64 at hl
        rw [Bool.and_eq_true, decide_eq_true_eq, decide_eq_true_eq] at hl
        exact .inl ⟨_, _, ra.int_, rb.int_, .inl ⟨by omega, by omega⟩, q⟩
      · unfold i64 at hl
        rw [Bool.and_eq_true, decide_eq_true_eq, decide_eq_true_eq] at hl
        exact .inl ⟨_, _, ra.int_, rb.int_, .inr ⟨by omega, by omega⟩, q⟩
      · exact .inr ⟨_, _, ra.int_, rb.int_, (of_decide_eq_true hl : _ + _ < 1000000), q⟩
    · cases e
  · cases e
theorem divOk.ok {i j : Int} (h : divOk j = true) : CDivW i j := by
  unfold divOk at h
  rw [Bool.and_eq_true, decide_eq_true_eq, decide_eq_true_eq] at h
  exact h
theorem os_div : OpS K (rI CDivW fun i j => .int (i / j)) oDiv := by
  intro G H x y a b d A A' hs ra rb e
  unfold oDiv at e
  split at e
  · split at e
    · rename_i hl
      cases e
      exact ⟨_, rfl, fun Q q => ⟨_, _, ra.int_, rb.int_, divOk.ok hl, q⟩⟩
    · cases e
  · cases e
theorem os_mod : OpS K (rI (fun _ j => 0 < j) fun i j => .int (i % j)) oMod := by
  intro G H x y a b d A A' hs ra rb e
  unfold oMod at e
  split at e
  · split at e
    · rename_i hl
      cases e
      exact ⟨_, rfl, fun Q q => ⟨_, _, ra.int_, rb.int_, hl, q⟩⟩
    · cases e
  · cases e
theorem os_pow : OpS K (rI CPow fun i j => .int (i ^ j.toNat)) oPow := by
  intro G H x y a b d A A' hs ra rb e
  unfold oPow at e
  split at e
  · split at e
    · rename_i hl
      cases e
      unfold powOk at hl
      rw [Bool.and_eq_true, Bool.and_eq_true, decide_eq_true_eq, decide_eq_true_eq, decide_eq_true_eq] at hl
      exact ⟨_, rfl, fun Q q => ⟨_, _, ra.int_, rb.int_, ⟨hl.1.1, hl.1.2, by have := hl.2; omega⟩, q⟩⟩
    · cases e
  · cases e
theorem us_neg : UnS K (rU fun i => .int (-i)) oNeg := by
  intro G H x a d A hs ra e
  unfold oNeg at e
  split at e
  · cases e
    exact ⟨_, rfl, fun Q q => ⟨_, ra.int_, q⟩⟩
  · cases e
/-! ### comparisons -/
def oCmp (p : Int → Int → Bool) : D → D → Option D
  | .int i, .int j => some (.bl (p i j))
  | _, _ => none
theorem os_cmp {p : Int → Int → Bool} : OpS K (rI0 fun i j => .bl (p i j)) (oCmp p) := by
  intro G H x y a b d A A' hs ra rb e
  unfold oCmp at e
  split at e
  · cases e
    exact ⟨_, rfl, fun Q q => ⟨_, _, ra.int_, rb.int_, q⟩⟩
  · cases e
def oLt := oCmp fun i j => decide (i < j)
def oLe := oCmp fun i j => decide (i ≤ j)
def oGt := oCmp fun i j => decide (j < i)
def oGe := oCmp fun i j => decide (j ≤ i)
/-- == of scalars -/
def oEq (a b : D) : Option D := match scV a, scV b with
  | some x, some y => if scal x y = true then some (.bl (decide (x = y))) else none
  | _, _ => none
def oNe (a b : D) : Option D := match scV a, scV b with
  | some x, some y => if scal x y = true then some (.bl (!decide (x = y))) else none
  | _, _ => none
theorem os_eq : OpS K rEq oEq := by
  intro G H x y a b d A A' hs ra rb e
  unfold oEq at e
  split at e
  · rename_i x' y' h1 h2
    split at e
    · rename_i hl
      cases e
      have e1 := ra.sc h1
      have e2 := rb.sc h2
      subst e1 e2
      exact ⟨_, rfl, fun Q q => ⟨hl, q⟩⟩
    · cases e
  · cases e
theorem os_ne : OpS K rNe oNe := by
  intro G H x y a b d A A' hs ra rb e
  unfold oNe at e
  split at e
  · rename_i x' y' h1 h2
    split at e
    · rename_i hl
      cases e
      have e1 := ra.sc h1
      have e2 := rb.sc h2
      subst e1 e2
      exact ⟨_, rfl, fun Q q => ⟨hl, q⟩⟩
    · cases e
  · cases e
def isNon : D → Bool
  | .non => true
  | _ => false
theorem Rp.isNon {G H : Hp} {k : Nat} {x : V} {a : D} {A : AS} (r : Rp K G H k x a A) : decide (x = .non) = isNon a := by
  cases r <;> simp [GW.isNon]
def oIs (a b : D) : Option D := if isNon b = true then some (.bl (isNon a)) else none
def oIsNot (a b : D) : Option D := if isNon b = true then some (.bl (!isNon a)) else none
theorem isNon_eq {b : D} (h : isNon b = true) : b = .non := by
  cases b <;> simp [isNon] at h
  rfl
theorem os_is : OpS K (fun x y H Q => y = .non ∧ Q (.bl (decide (x = .non))) H) oIs := by
  intro G H x y a b d A A' hs ra rb e
  unfold oIs at e
  split at e
  · rename_i hl
    cases e
    have hb := isNon_eq hl
    subst hb
    exact ⟨_, rfl, fun Q q => ⟨rb.non_, by rw [ra.isNon]; exact q⟩⟩
  · cases e
theorem os_isnot : OpS K (fun x y H Q => y = .non ∧ Q (.bl (!decide (x = .non))) H) oIsNot := by
  intro G H x y a b d A A' hs ra rb e
  unfold oIsNot at e
  split at e
  · rename_i hl
    cases e
    have hb := isNon_eq hl
    subst hb
    exact ⟨_, rfl, fun Q q => ⟨rb.non_, by rw [ra.isNon]; exact q⟩⟩
  · cases e
end
end GW

namespace GW
open PySem L2

theorem RV_of0 {C : Ctx} {g : Rg} {k : Nat} {H F' H' : Hp} {v : V} {d : D} (r : Rp C.K (rg C.q g F' H') H' k v d (fun _ => False)) : RV C g k H F' H' v d := ⟨_, r, Fr.no⟩

/-! ### tests -/
def mTest (m : M) : Mo Bool := mb m fun d => ret (match d with | .bl b => some b | _ => none)
section
variable {X : Cx} {C : Ctx} {wx : WX} {g : Rg} {k : Nat} {a b c e : Expr} {es : List Expr} {pos : Pos} {ma mc m : M} {ta tc : Mo Bool}
theorem test_bl {d : D} {b : Bool} (h : (match d with | .bl b => some b | _ => none) = some b) : d = .bl b := by
  cases d <;> first | (cases h; rfl) | cases h
theorem tB_of {t : TE} (ht : ∀ σ H Q, W C wx .bo 0 m σ H Q → t σ H Q) {σ : L2.St} {H : Hp} {Q : Bool → Hp → Prop} (w : WT C wx (mTest m) σ H Q) : t σ H fun x H1 => ∃ c, x = .bl c ∧ Q c H1 := by
  refine ht _ _ _ ?_
  obtain ⟨F, B, n, ds, S, h⟩ := w
  refine ⟨F, B, n, ds, S, (h.bind fun F1 H1 F2 H2 v d G r => r).mono fun x H1 ⟨F1, n1, d, G1, S1, ⟨A1, r1, f1⟩, h1⟩ => ?_⟩
  obtain ⟨b, e, q⟩ := h1.retE
  have := test_bl e
  subst this
  exact ⟨b, r1.bl_, q b F1 H1 (GoC.refl S1.fh) S1 rfl⟩
theorem vt_val (h : PE X e (W C wx .bo 0 m)) (he : ∀ whole, isTrue e X.env whole = (do let v ← whole; standAt e.pos; holding [v] (truthy v)) := by intro _; rfl) : PT X e (WT C wx (mTest m)) :=
  (pt_val h he).wk fun σ H Q w => tB_of (t := W C wx .bo 0 m) (fun _ _ _ z => z) w
theorem vt_cmp {op : CmpOp} {r : R2} {o : D → D → Option D} (hr : OpR X (compareOp op) r) (ho : OpS C.K r o) (ha : PE X a (W C wx .bo 0 ma)) (hb : PE X b (W C wx .bo 0 mc)) (hm : behindInMarks op b = false) : PT X (.Compare a [op] [b] pos) (WT C wx (mTest (m2 ma mc o))) :=
  (pt_cmpR hr ha hb hm).wk fun σ H Q w => tB_of (t := tOp r _ _) (fun _ _ _ z => tOp_of ho z) w
def mNot (t : Mo Bool) : Mo Bool := mb t fun b => ret (some (!b))
theorem vt_not (h : PT X a (WT C wx ta)) : PT X (.UnaryOp .Not a pos) (WT C wx (mNot ta)) := by
  refine (pt_not h).wk fun σ H Q w => ?_
  obtain ⟨F, B, n, ds, S, h⟩ := w
  refine ⟨F, B, n, ds, S, (h.bind fun F1 H1 F2 H2 v d G r => r).mono fun x H1 ⟨F1, n1, d, G1, S1, r1, h1⟩ => ?_⟩
  obtain ⟨b, e, q⟩ := h1.retE
  cases e
  have r1 : x = d := r1
  subst r1
  exact q _ F1 H1 (GoC.refl S1.fh) S1 rfl
def mAnd (t u : Mo Bool) : Mo Bool := mb t fun b => match b with | true => u | false => ret (some false)
def mOr (t u : Mo Bool) : Mo Bool := mb t fun b => match b with | true => ret (some true) | false => u
theorem vw_one_and (h : PT X a (WT C wx ta)) : PW X (.BoolOp .And [a] pos) (WT C wx ta) := pw_and1 h
theorem vw_one_or (h : PT X a (WT C wx ta)) : PW X (.BoolOp .Or [a] pos) (WT C wx ta) := pw_or1 h
theorem vw_and {rest : List Expr} (ha : PT X a (WT C wx ta)) (hb : PW X (.BoolOp .And (b :: rest) pos) (WT C wx tc)) : PW X (.BoolOp .And (a :: b :: rest) pos) (WT C wx (mAnd ta tc)) := by
  refine (pw_and ha hb).wk fun σ H Q w => ?_
  obtain ⟨F, B, n, ds, S, h⟩ := w
  refine ⟨F, B, n, ds, S, (h.bind fun F1 H1 F2 H2 v d G r => r).mono fun x H1 ⟨F1, n1, d, G1, S1, r1, h1⟩ => ?_⟩
  have r1 : x = d := r1
  subst r1
  cases x with
  | true => rw [if_pos rfl]; exact ⟨F1, B, n1, ds, S1, h1⟩
  | false =>
    rw [if_neg Bool.false_ne_true]
    obtain ⟨b, e, q⟩ := h1.retE
    cases e
    exact q _ F1 H1 (GoC.refl S1.fh) S1 rfl
theorem vw_or {rest : List Expr} (ha : PT X a (WT C wx ta)) (hb : PW X (.BoolOp .Or (b :: rest) pos) (WT C wx tc)) : PW X (.BoolOp .Or (a :: b :: rest) pos) (WT C wx (mOr ta tc)) := by
  refine (pw_or ha hb).wk fun σ H Q w => ?_
  obtain ⟨F, B, n, ds, S, h⟩ := w
  refine ⟨F, B, n, ds, S, (h.bind fun F1 H1 F2 H2 v d G r => r).mono fun x H1 ⟨F1, n1, d, G1, S1, r1, h1⟩ => ?_⟩
  have r1 : x = d := r1
  subst r1
  cases x with
  | false => rw [if_neg Bool.false_ne_true]; exact ⟨F1, B, n1, ds, S1, h1⟩
  | true =>
    rw [if_pos rfl]
    obtain ⟨b, e, q⟩ := h1.retE
    cases e
    exact q _ F1 H1 (GoC.refl S1.fh) S1 rfl
/-- truth of any value -/
def oTru : D → Option Bool
  | .non => some false
  | .bl b => some b
  | .int i => some (i != 0)
  | .str x => if x.length ≤ sizeLine then some ((x.length : Int) != 0) else none
  | .tup ds => some (!ds.isEmpty)
  | .lst ds => some (!ds.isEmpty)
  | _ => none
theorem isEmpty_len {α β : Type} {xs : List α} {ys : List β} (h : xs.length = ys.length) : xs.isEmpty = ys.isEmpty := by
  cases xs <;> cases ys <;> simp at h ⊢
theorem tru_of {K : PySem.W.Frag} {G H : Hp} {x : V} {d : D} {A : AS} {b : Bool} (s : Same G H) (r : Rp K G H 0 x d A) (e : oTru d = some b) : TruV K x H b := by
  cases r with
  | non => cases e; rfl
  | bl => cases e; rfl
  | int => cases e; rfl
  | str =>
    simp only [oTru] at e
    split at e
    · rename_i h; cases e; exact ⟨h, rfl⟩
    · cases e
  | tup h l c => cases e; exact .inr (.inl ⟨_, h, by rw [isEmpty_len l]⟩)
  | lst h l c => cases e; exact .inl ⟨_, sqL_mono h s, by rw [isEmpty_len l]⟩
  | dct => cases e
  | obj => cases e
def mTru (m : M) : Mo Bool := mb m fun d => ret (oTru d)
theorem vt_tru (h : PE X e (W C wx .bo 0 m)) (he : ∀ whole, isTrue e X.env whole = (do let v ← whole; standAt e.pos; holding [v] (truthy v)) := by intro _; rfl) (hK : X.K = C.K := by rfl) : PT X e (WT C wx (mTru m)) := by
  refine (pt_truth h he).wk fun σ H Q w => ?_
  obtain ⟨F, B, n, ds, S, h⟩ := w
  refine ⟨F, B, n, ds, S, (h.bind fun F1 H1 F2 H2 v d G r => r).mono fun x H1 ⟨F1, n1, d, G1, S1, ⟨A1, r1, f1⟩, h1⟩ => ?_⟩
  obtain ⟨b, e, q⟩ := h1.retE
  exact ⟨b, by rw [hK]; exact tru_of (rg_same S1.fh) r1 e, q b F1 H1 (GoC.refl S1.fh) S1 rfl⟩
/-! ### bools as values -/
def mAndV (ma mc : M) : M := mb ma fun d => match d with | .bl true => mc | .bl false => ret (some (.bl false)) | _ => ret none
def mOrV (ma mc : M) : M := mb ma fun d => match d with | .bl true => ret (some (.bl true)) | .bl false => mc | _ => ret none
theorem ve_one {op : BoolOp} (h : PE X a (W C wx g k m)) : PE X (.BoolOp op [a] pos) (W C wx g k m) := pe_one h

theorem ve_and {rest : List Expr} (ha : PE X a (W C wx .bo 0 ma)) (hb : PE X (.BoolOp .And (b :: rest) pos) (W C wx g k mc)) : PE X (.BoolOp .And (a :: b :: rest) pos) (W C wx g k (mAndV ma mc)) := by
  refine (pe_and ha hb).wk fun σ H Q w => ?_
  obtain ⟨F, B, n, ds, S, h⟩ := w
  refine ⟨F, B, n, ds, S, (h.bind fun F1 H1 F2 H2 v d G r => r.tr G).mono fun x H1 ⟨F1, n1, d, G1, S1, ⟨A1, r1, f1⟩, h1⟩ => ?_⟩
  cases d with
  | bl b =>
    refine ⟨b, r1.bl_, ?_⟩
    cases b with
    | true => rw [if_pos rfl]; exact ⟨F1, B, n1, ds, S1, h1⟩
    | false =>
      rw [if_neg Bool.false_ne_true]
      obtain ⟨d, e, q⟩ := h1.sc S1
      cases e
      exact q _ rfl
  | _ => obtain ⟨d, e, q⟩ := h1.sc S1; cases e
theorem ve_or {rest : List Expr} (ha : PE X a (W C wx .bo 0 ma)) (hb : PE X (.BoolOp .Or (b :: rest) pos) (W C wx g k mc)) : PE X (.BoolOp .Or (a :: b :: rest) pos) (W C wx g k (mOrV ma mc)) := by
  refine (pe_or ha hb).wk fun σ H Q w => ?_
  obtain ⟨F, B, n, ds, S, h⟩ := w
  refine ⟨F, B, n, ds, S, (h.bind fun F1 H1 F2 H2 v d G r => r.tr G).mono fun x H1 ⟨F1, n1, d, G1, S1, ⟨A1, r1, f1⟩, h1⟩ => ?_⟩
  cases d with
  | bl b =>
    refine ⟨b, r1.bl_, ?_⟩
    cases b with
    | false => rw [if_neg Bool.false_ne_true]; exact ⟨F1, B, n1, ds, S1, h1⟩
    | true =>
      rw [if_pos rfl]
      obtain ⟨d, e, q⟩ := h1.sc S1
      cases e
      exact q _ rfl
  | _ => obtain ⟨d, e, q⟩ := h1.sc S1; cases e
def oNotV : D → Option D
  | .bl b => some (.bl (!b))
  | _ => none
theorem ve_not (ha : PE X a (W C wx .bo 0 ma)) : PE X (.UnaryOp .Not a pos) (W C wx g k (m1 ma oNotV)) := by
  refine (pe_not ha).wk fun σ H Q w => ?_
  obtain ⟨F, B, n, ds, S, h⟩ := w
  refine ⟨F, B, n, ds, S, (h.bind fun F1 H1 F2 H2 v d G r => r.tr G).mono fun x H1 ⟨F1, n1, d, G1, S1, ⟨A1, r1, f1⟩, h1⟩ => ?_⟩
  obtain ⟨d', e, q⟩ := h1.sc S1
  cases d with
  | bl b => cases e; exact ⟨b, r1.bl_, q _ rfl⟩
  | _ => cases e
/-- a if t else b -/
def mIf (t : Mo Bool) (ma mc : M) : M := mb t fun b => match b with | true => ma | false => mc
theorem ve_if (hc : PT X c (WT C wx ta)) (ha : PE X a (W C wx g k ma)) (hb : PE X b (W C wx g k mc)) : PE X (.IfExp c a b pos) (W C wx g k (mIf ta ma mc)) := by
  refine (pe_ifExp hc ha hb).wk fun σ H Q w => ?_
  obtain ⟨F, B, n, ds, S, h⟩ := w
  refine ⟨F, B, n, ds, S, (h.bind fun F1 H1 F2 H2 v d G r => r.tr G).mono fun x H1 ⟨F1, n1, d, G1, S1, r1, h1⟩ => ?_⟩
  have r1 : x = d := r1
  subst r1
  cases x with
  | true => rw [if_pos rfl]; exact ⟨F1, B, n1, ds, S1, h1⟩
  | false => rw [if_neg Bool.false_ne_true]; exact ⟨F1, B, n1, ds, S1, h1⟩
/-- a op1 b op2 c -/
def m3c (ma mc md : M) (o o' : D → D → Option D) : M := mb ma fun x => mb mc fun y => mb (ret (o x y)) fun z => match z with | .bl true => mb md fun w => ret (o' y w) | .bl false => ret (some (.bl false)) | _ => ret none
theorem tChain_of {md : M} {r r' : R2} {o o' : D → D → Option D} (ho : OpS C.K r o) (ho' : OpS C.K r' o') {σ : L2.St} {H : Hp} {Q : VK} (w : W C wx g k (m3c ma mc md o o') σ H Q) : tChain r r' (W C wx .bo 0 ma) (W C wx .bo 0 mc) (W C wx .bo 0 md) σ H Q := by
  obtain ⟨F, B, n, ds, S, h⟩ := w
  refine ⟨F, B, n, ds, S, (h.bind fun F1 H1 F2 H2 v d G r => r.tr G).mono fun x H1 ⟨F1, n1, da, G1, S1, ⟨A1, r1, f1⟩, h1⟩ => ?_⟩
  refine ⟨F1, B, n1, ds, S1, (h1.bind fun F1 H1 F2 H2 v d G r => r.tr G).mono fun y H2 ⟨F2, n2, db, G2, S2, ⟨A2, r2, f2⟩, h2⟩ => ?_⟩
  have h3 := h2.bind (β := V) (R := RV C .bo 0) fun F1 H1 F2 H2 v d G r => r.tr G
  obtain ⟨dz, ez, qz⟩ := h3.retE
  obtain ⟨v, hv, hr⟩ := ho _ _ x y da db dz _ _ (rg_same S2.fh) (Rp.go0 (A' := fun _ => False) r1 G2) r2 ez
  refine hr _ ?_
  obtain ⟨F3, n3, d3, G3, S3, ⟨A3, r3, f3⟩, h4⟩ := qz v F2 H2 (GoC.refl S2.fh) S2 ⟨fun _ => False, Rp.of_sc hv, Fr.no⟩
  cases d3 with
  | bl kk =>
    refine ⟨kk, r3.bl_, ?_⟩
    cases kk with
    | true =>
      rw [if_pos rfl]
      refine ⟨F3, B, n3, ds, S3, (h4.bind fun F1 H1 F2 H2 v d G r => r.tr G).mono fun z H4 ⟨F4, n4, d4, G4, S4, ⟨A4, r4, f4⟩, h5⟩ => ?_⟩
      obtain ⟨d5, e5, q5⟩ := h5.sc S4
      obtain ⟨v5, hv5, hr5⟩ := ho' _ _ y z db d4 d5 _ _ (rg_same S4.fh) (Rp.go0 (A' := fun _ => False) r2 (G3.trans G4)) r4 e5
      exact hr5 Q (q5 v5 hv5)
    | false =>
      rw [if_neg Bool.false_ne_true]
      obtain ⟨d5, e5, q5⟩ := h4.sc S3
      cases e5
      exact q5 _ rfl
  | _ => obtain ⟨d5, e5, q5⟩ := h4.sc S3; cases e5
end
end GW

namespace GW
open PySem L2
section
variable {X : Cx} {C : Ctx} {wx : WX} {g : Rg} {k : Nat} {a b c e : Expr} {es : List Expr} {pos : Pos} {ma mc md m : M} {ta tc : Mo Bool}
theorem ve_chain {op op' : CmpOp} {r r' : R2} {o o' : D → D → Option D} (hr : OpR X (compareOp op) r) (ho : OpS C.K r o) (hr' : OpR X (compareOp op') r') (ho' : OpS C.K r' o') (ha : PE X a (W C wx .bo 0 ma)) (hb : PE X b (W C wx .bo 0 mc)) (hc : PE X c (W C wx .bo 0 md))
    (hm : lastMarks [op, op'] [b, c] = false := by with_unfolding_all rfl) : PE X (.Compare a [op, op'] [b, c] pos) (W C wx g k (m3c ma mc md o o')) :=
  (pe_chain hr hr' ha hb hc hm).wk fun σ H Q w => tChain_of ho ho' w
theorem vt_chain {op op' : CmpOp} {r r' : R2} {o o' : D → D → Option D} (hr : OpR X (compareOp op) r) (ho : OpS C.K r o) (hr' : OpR X (compareOp op') r') (ho' : OpS C.K r' o') (ha : PE X a (W C wx .bo 0 ma)) (hb : PE X b (W C wx .bo 0 mc)) (hc : PE X c (W C wx .bo 0 md))
    (hm : lastMarks [op, op'] [b, c] = false := by with_unfolding_all rfl) : PT X (.Compare a [op, op'] [b, c] pos) (WT C wx (mTest (m3c ma mc md o o'))) :=
  (pt_chain hr hr' ha hb hc hm).wk fun σ H Q w => tB_of (t := tChain r r' _ _ _) (fun _ _ _ z => tChain_of ho ho' z) w

/-! ### arguments -/
def mCons (m : M) (ms : Mo (List D)) : Mo (List D) := mb m fun d => mb ms fun ds => ret (some (d :: ds))
theorem RpL.nil {K : PySem.W.Frag} {G H : Hp} : RpL K G H [] [] := ⟨rfl, fun i v d h => by simp at h⟩
theorem RpL.cons {K : PySem.W.Frag} {G H : Hp} {v : V} {vs : List V} {d : D} {ds : List D} {A : AS} (r : Rp K G H 0 v d A) (h : RpL K G H vs ds) : RpL K G H (v :: vs) (d :: ds) := by
  refine ⟨by simp [h.1], fun i v' d' h1 h2 => ?_⟩
  cases i with
  | zero =>
    simp only [List.getElem?_cons_zero, Option.some.injEq] at h1 h2
    subst h1 h2
    exact r.z
  | succ i => exact h.2 i v' d' (by simpa using h1) (by simpa using h2)
theorem va_nil : PA X [] (WA C wx g (ret (some []))) := by
  refine pa_nil.wk fun σ H Q w => ?_
  obtain ⟨F, B, n, ds, S, h⟩ := w
  obtain ⟨d, e, q⟩ := h.retE
  cases e
  exact q [] F H (GoC.refl S.fh) S RpL.nil
theorem va_cons {ms : Mo (List D)} (ha : PE X e (W C wx g 0 m)) (hr : PA X es (WA C wx g ms)) (hs : starEach (e :: es) X.env = (false, eval e X.env) :: starEach es X.env := by rfl) : PA X (e :: es) (WA C wx g (mCons m ms)) := by
  refine (pa_cons ha hr hs).wk fun σ H Q w => ?_
  obtain ⟨F, B, n, ds, S, h⟩ := w
  refine ⟨F, B, n, ds, S, (h.bind fun F1 H1 F2 H2 v d G r => r).mono fun x H1 ⟨F1, n1, d, G1, S1, ⟨A1, r1, f1⟩, h1⟩ => ?_⟩
  refine ⟨F1, B, n1, ds, S1, (h1.bind fun F1 H1 F2 H2 v d G r => r).mono fun xs H2 ⟨F2, n2, d2, G2, S2, r2, h2⟩ => ?_⟩
  obtain ⟨d3, e3, q⟩ := h2.retE
  cases e3
  exact q (x :: xs) F2 H2 (GoC.refl S2.fh) S2 (RpL.cons (r1.go0 (A' := fun _ => False) G2) r2)

/-! ### displays -/
theorem rg_self {q : Option Addr} {F H : Hp} {p : Addr} {o : HO} (hq : q ≠ some p) : rg q .bo F (upd H p o) p = some o := by
  show (if q = some p then none else upd H p o p) = some o
  rw [if_neg hq, upd_same]
/-- a new object of one's own -/
theorem Sim.newO {F H : Hp} {B : AS} {σ : L2.St} {n : Int} {ds : DS} {p : Addr} {o : HO} (S : Sim C F B σ H n ds) (hp : H p = none) : GoC C.q F H F (upd H p o) ∧ Sim C F B σ (upd H p o) n ds :=
  ⟨GoC.newO S.fh hp, S.go0 (GoC.newO S.fh hp)⟩
theorem Sim.nqp {F H : Hp} {B : AS} {σ : L2.St} {n : Int} {ds : DS} {p : Addr} (S : Sim C F B σ H n ds) (hp : H p = none) : C.q ≠ some p := fun e => S.nq e hp
theorem Fr.one {F H : Hp} {p : Addr} {o : HO} (fh : Same F H) (hp : H p = none) (ho : Mk o = true) : Fr F H (upd H p o) (fun a => a = p) := fun a ha => by
  subst ha
  refine ⟨hp, ?_, o, upd_same, ho⟩
  cases e : F a with
  | none => exact Eq.refl _
  | some u => have := fh a u e; rw [hp] at this; cases this
def mTup (ms : Mo (List D)) : M := mb ms fun ds => ret (if ds.length ≤ 16777216 then some (.tup ds) else none)
theorem ve_tup {x1 : Nat} {ms : Mo (List D)} (h : PA X es (WA C wx g ms)) : PE X (.Tuple es x1 pos) (W C wx g k (mTup ms)) := by
  refine (pe_tup h).wk fun σ H Q w => ?_
  obtain ⟨F, B, n, ds, S, h⟩ := w
  refine ⟨F, B, n, ds, S, (h.bind fun F1 H1 F2 H2 v d G r => r.tr G).mono fun xs H1 ⟨F1, n1, d, G1, S1, r1, h1⟩ => ?_⟩
  obtain ⟨d2, e2, q⟩ := h1.retE
  split at e2
  · rename_i hl
    cases e2
    refine ⟨by rw [sizeLine_eq, r1.1]; exact hl, fun p hp => ?_⟩
    obtain ⟨G2, S2⟩ := S1.newO (o := .tup xs) hp
    refine q (.ref p) F1 _ G2 S2 (RV_of0 (.tup (.inl (.inl upd_same)) r1.1 fun i v d a b => ?_))
    exact Rp.go0 (r1.2 i v d a b) G2
  · cases e2
def mLst (ms : Mo (List D)) : M := mb ms fun ds => ret (if ds.length ≤ 16777216 then some (.lst ds) else none)
/-- a list display: one's own | to be read now -/
theorem ve_lst1 {ms : Mo (List D)} (h : PA X es (WA C wx .fz ms)) : PE X (.List es pos) (W C wx .fz 1 (mLst ms)) := by
  refine (pe_lst h).wk fun σ H Q w => ?_
  obtain ⟨F, B, n, ds, S, h⟩ := w
  refine ⟨F, B, n, ds, S, (h.bind fun F1 H1 F2 H2 v d G r => r.tr G).mono fun xs H1 ⟨F1, n1, d, G1, S1, r1, h1⟩ => ?_⟩
  obtain ⟨d2, e2, q⟩ := h1.retE
  split at e2
  · rename_i hl
    cases e2
    refine ⟨by rw [sizeLine_eq, r1.1]; exact hl, fun p hp => ?_⟩
    obtain ⟨G2, S2⟩ := S1.newO (o := .lst xs) hp
    refine q (.ref p) F1 _ G2 S2 ⟨fun a => a = p, .lstO (fun _ _ => False) upd_same rfl r1.1 (fun i v d a b => ?_) (fun _ _ h => h.elim) (fun _ _ _ h => h.elim), Fr.one S1.fh hp rfl⟩
    exact Rp.go0 (g := .fz) (r1.2 i v d a b) G2
  · cases e2
theorem ve_lstb {ms : Mo (List D)} (h : PA X es (WA C wx .bo ms)) : PE X (.List es pos) (W C wx .bo 0 (mLst ms)) := by
  refine (pe_lst h).wk fun σ H Q w => ?_
  obtain ⟨F, B, n, ds, S, h⟩ := w
  refine ⟨F, B, n, ds, S, (h.bind fun F1 H1 F2 H2 v d G r => r.tr G).mono fun xs H1 ⟨F1, n1, d, G1, S1, r1, h1⟩ => ?_⟩
  obtain ⟨d2, e2, q⟩ := h1.retE
  split at e2
  · rename_i hl
    cases e2
    refine ⟨by rw [sizeLine_eq, r1.1]; exact hl, fun p hp => ?_⟩
    obtain ⟨G2, S2⟩ := S1.newO (o := .lst xs) hp
    refine q (.ref p) F1 _ G2 S2 (RV_of0 (.lst (.inl (.inl (rg_self (S1.nqp hp)))) r1.1 fun i v d a b => ?_))
    exact Rp.go0 (g := .bo) (r1.2 i v d a b) G2
  · cases e2

/-! ### subscripts -/
/-- an operation whose answer is a part of the first thing -/
def OpG (K : PySem.W.Frag) (r : R2) (o : D → D → Option D) : Prop := ∀ (G G2 H : Hp) (x y : V) (a b d : D) (A A' : AS), Same G H → Rp K G H 0 x a A → Rp K G2 H 0 y b A' → o a b = some d → ∃ v, Rp K G H 0 v d (fun _ => False) ∧ ∀ Q : VK, Q v H → r x y H Q
theorem tOpG_of {r : R2} {o : D → D → Option D} (ho : OpG C.K r o) {σ : L2.St} {H : Hp} {Q : VK} (w : W C wx g 0 (m2 ma mc o) σ H Q) : tOp r (W C wx g 0 ma) (W C wx .bo 0 mc) σ H Q := by
  obtain ⟨F, B, n, ds, S, h⟩ := w
  refine ⟨F, B, n, ds, S, (h.bind fun F1 H1 F2 H2 v d G r => r.tr G).mono fun x H1 ⟨F1, n1, da, G1, S1, ⟨A1, r1, f1⟩, h1⟩ => ?_⟩
  refine ⟨F1, B, n1, ds, S1, (h1.bind fun F1 H1 F2 H2 v d G r => r.tr G).mono fun y H2 ⟨F2, n2, db, G2, S2, ⟨A2, r2, f2⟩, h2⟩ => ?_⟩
  obtain ⟨d, e, q⟩ := h2.retE
  obtain ⟨v, hv, hr⟩ := ho _ _ _ x y da db d _ _ (rg_same S2.fh) (Rp.go0 (g := g) (A' := fun _ => False) r1 G2) r2 e
  exact hr Q (q v F2 H2 (GoC.refl S2.fh) S2 (RV_of0 hv))
def oIx : D → D → Option D
  | .lst ds, .int i => atI ds i
  | .tup ds, .int i => atI ds i
  | .str x, .int i => if x.length ≤ sizeLine then (atI x.cps.toList i).map fun c => .str ⟨#[c]⟩ else none
  | _, _ => none
theorem atI_pair {vs : List V} {ds : List D} (h : vs.length = ds.length) {i : Int} {d : D} (e : atI ds i = some d) : ∃ (j : Nat) (v : V), atI vs i = some v ∧ vs[j]? = some v ∧ ds[j]? = some d := by
  unfold atI at e ⊢
  rw [h]
  cases hj : ixN ds.length i with
  | none => rw [hj] at e; cases e
  | some j =>
    rw [hj] at e
    have e' : ds[j]? = some d := e
    have hlt : j < ds.length := (List.getElem?_eq_some_iff.mp e').1
    exact ⟨j, vs[j]'(by omega), by show vs[j]? = _; simp [h, hlt], by simp [h, hlt], e'⟩
theorem og_ix {K : PySem.W.Frag} : OpG K (rIx K) oIx := by
  intro G G2 H x y a b d A A' hs ra rb e
  cases b with
  | int i =>
    have ey := rb.int_
    subst ey
    cases ra with
    | lst h l c =>
      obtain ⟨j, v, h1, h2, h3⟩ := atI_pair l e
      exact ⟨v, (c j v d h2 h3).z, fun Q q => .inl ⟨_, _, _, _, rfl, rfl, sqL_mono h hs, h1, q⟩⟩
    | tup h l c =>
      obtain ⟨j, v, h1, h2, h3⟩ := atI_pair l e
      exact ⟨v, (c j v d h2 h3).z, fun Q q => .inr (.inl ⟨_, _, _, _, rfl, rfl, h, h1, q⟩)⟩
    | str =>
      rename_i x
      simp only [oIx] at e
      split at e
      · rename_i hl
        cases hc : atI x.cps.toList i with
        | none => rw [hc] at e; cases e
        | some cc =>
          rw [hc] at e
          cases e
          exact ⟨_, .str, fun Q q => .inr (.inr ⟨_, _, _, rfl, rfl, hl, hc, q⟩)⟩
      · cases e
    | non => cases e
    | bl => cases e
    | int => cases e
    | dct => cases e
    | obj => cases e
  | _ => cases a <;> cases e
theorem ve_ix (ha : PE X a (W C wx g 0 ma)) (hb : PE X b (W C wx .bo 0 mc)) (hs : PlainIx b := by intro _ _; rfl) (hK : X.K = C.K := by rfl) : PE X (.Subscript a b pos) (W C wx g 0 (m2 ma mc oIx)) :=
  (pe_ix (by rw [← hK]; exact ix_seq) ha hb hs).wk fun σ H Q w => tOpG_of og_ix w
/-! ### d[k] of a dict -/
def keyD : D → Option Key
  | .int i => some (.inl i)
  | .str x => some (.inr x)
  | _ => none
def valD (kvs : List (Key × D)) (k : Key) : Option D := (kvs.find? fun kv => decide (kv.1 = k)).map (·.2)
def oDGet (a b : D) : Option D := match a, keyD b with
  | .dct kvs, some k => valD kvs k
  | _, _ => none
theorem val_pair {kvs : List (Key × V)} {kds : List (Key × D)} (h : kvs.map (·.1) = kds.map (·.1)) {k : Key} {d : D} (e : valD kds k = some d) : ∃ (j : Nat) (v : V), valV kvs k = some v ∧ (kvs.map (·.2))[j]? = some v ∧ (kds.map (·.2))[j]? = some d := by
  induction kds generalizing kvs with
  | nil => cases e
  | cons p r ih =>
    cases kvs with
    | nil => cases h
    | cons p' r' =>
      simp only [List.map_cons, List.cons.injEq] at h
      by_cases hk : p.1 = k
      · have e' : p.2 = d := by simp [valD, List.find?_cons, hk] at e; exact e
        refine ⟨0, p'.2, valV_pos (h.1.trans hk), by simp, by simp [e']⟩
      · have e' : valD r k = some d := by simp [valD, List.find?_cons, hk] at e ⊢; exact e
        obtain ⟨j, v, h1, h2, h3⟩ := ih h.2 e'
        exact ⟨j + 1, v, by rw [valV_neg (by rw [h.1]; exact hk)]; exact h1, by simpa using h2, by simpa using h3⟩
theorem key_rel {K : PySem.W.Frag} {G H : Hp} {y : V} {b : D} {A : AS} {k : Key} (r : Rp K G H 0 y b A) (e : keyD b = some k) : y = kV k := by
  cases b <;> simp [keyD] at e
  · subst e; exact r.int_
  · subst e; exact r.str_
theorem ve_dget (hu : X.A.units + 1 < cLine) (ha : PE X a (W C wx g 0 ma)) (hb : PE X b (W C wx .bo 0 mc)) (hs : NoSl b := by intro _ _; rfl) : PE X (.Subscript a b pos) (W C wx g 0 (m2 ma mc oDGet)) := by
  refine (pe_dget hu ha hb hs).wk fun σ H Q w => ?_
  obtain ⟨F, B, n, ds, S, h⟩ := w
  refine ⟨F, B, n, ds, S, (h.bind fun F1 H1 F2 H2 v d G r => r.tr G).mono fun x H1 ⟨F1, n1, da, G1, S1, ⟨A1, r1, f1⟩, h1⟩ => ?_⟩
  refine ⟨F1, B, n1, ds, S1, (h1.bind fun F1 H1 F2 H2 v d G r => r.tr G).mono fun y H2 ⟨F2, n2, db, G2, S2, ⟨A2, r2, f2⟩, h2⟩ => ?_⟩
  obtain ⟨d, e, q⟩ := h2.retE
  have r1' := Rp.go0 (g := g) (A' := fun _ => False) r1 G2
  cases hk : keyD db with
  | none => cases da <;> simp [oDGet, hk] at e
  | some kk =>
    cases r1' with
    | dct h l c =>
      simp only [oDGet, hk] at e
      obtain ⟨j, v, h1, h3, h4⟩ := val_pair l e
      have hy := key_rel r2 hk
      subst hy
      exact ⟨_, v, rfl, .inl ⟨_, kk, .inl (rg_same S2.fh _ _ h), rfl, h1.symm⟩, q v F2 H2 (GoC.refl S2.fh) S2 (RV_of0 (c j v d h3 h4))⟩
    | _ => simp [oDGet] at e
/-! ### attributes -/
def fldD (fs : List (Str × D)) (f : Str) : Option D := fs.lookup f
def oFld (C0 : Addr) (f : Str) : D → Option D
  | .obj C1 fs => if C1 = C0 then fs.lookup f else none
  | _ => none
theorem lookup_pair {fs : List (Str × V)} {fds : List (Str × D)} (h : fs.map (·.1) = fds.map (·.1)) {f : Str} {d : D} (e : fds.lookup f = some d) : ∃ (j : Nat) (v : V), fs.lookup f = some v ∧ (fs.map (·.2))[j]? = some v ∧ (fds.map (·.2))[j]? = some d := by
  induction fds generalizing fs with
  | nil => cases e
  | cons p r ih =>
    cases fs with
    | nil => cases h
    | cons p' r' =>
      obtain ⟨pk, pd⟩ := p
      obtain ⟨pk', pv⟩ := p'
      simp only [List.map_cons, List.cons.injEq] at h
      obtain ⟨h1, h2⟩ := h
      subst h1
      by_cases hk : f = pk'
      · subst hk
        rw [List.lookup_cons_self] at e
        cases e
        exact ⟨0, pv, List.lookup_cons_self, by simp, by simp⟩
      · have hb : (f == pk') = false := by simpa using hk
        rw [List.lookup_cons, hb] at e
        obtain ⟨j, v, h1, h3, h4⟩ := ih h2 e
        exact ⟨j + 1, v, by rw [List.lookup_cons, hb]; exact h1, by simpa using h3, by simpa using h4⟩
theorem ve_fld {C0 : Addr} {f : Str} (hc : Cls C.K C0) (hn : NoAttr C.K C0 f) (ha : PE X a (W C wx g 0 ma)) (hb : attributeBase a f X.env (eval a X.env) = eval a X.env := by rfl) (hK : X.K = C.K := by rfl) : PE X (.Attribute a f pos) (W C wx g 0 (m1 ma (oFld C0 f))) := by
  refine (pe_fld ha hb).wk fun σ H Q w => ?_
  obtain ⟨F, B, n, ds, S, h⟩ := w
  refine ⟨F, B, n, ds, S, (h.bind fun F1 H1 F2 H2 v d G r => r.tr G).mono fun x H1 ⟨F1, n1, da, G1, S1, ⟨A1, r1, f1⟩, h1⟩ => ?_⟩
  obtain ⟨d, e, q⟩ := h1.retE
  cases r1 with
  | obj hh l c =>
    simp only [oFld] at e
    split at e
    · rename_i hC
      subst hC
      obtain ⟨j, v, h2, h3, h4⟩ := lookup_pair l e
      rw [hK]
      exact ⟨_, _, _, _, v, rfl, rg_same S1.fh _ _ hh, hc, hn, h2, q v F1 H1 (GoC.refl S1.fh) S1 (RV_of0 (c j v d h3 h4).z)⟩
    · cases e
  | _ => cases e
/-! ### slices -/
def mNoPart : Mo (Option Int) := ret (some none)
def mPart (m : M) : Mo (Option Int) := mb m fun d => ret (match d with | .int i => some (some i) | _ => none)
abbrev WO (C : Ctx) (wx : WX) (m : Mo (Option Int)) : TO := WW C wx (fun _ _ _ v d => v = d) m
theorem _root_.L2.PO.wk {e : Option Expr} {t t' : TO} (h : PO X e t) (w : ∀ σ H Q, t' σ H Q → t σ H Q) : PO X e t' := ⟨fun pins s σ H Q I q => h.run pins s σ H Q I (w _ _ _ q)⟩
theorem vo_none : PO X none (WO C wx mNoPart) := po_none.wk fun σ H Q w => by
  obtain ⟨F, B, n, ds, S, h⟩ := w
  obtain ⟨d, e, q⟩ := h.retE
  cases e
  exact q none F H (GoC.refl S.fh) S rfl
theorem vo_some (h : PE X e (W C wx .bo 0 m)) : PO X (some e) (WO C wx (mPart m)) := (po_some h).wk fun σ H Q w => by
  obtain ⟨F, B, n, ds, S, h⟩ := w
  refine ⟨F, B, n, ds, S, (h.bind fun F1 H1 F2 H2 v d G r => r).mono fun x H1 ⟨F1, n1, d, G1, S1, ⟨A1, r1, f1⟩, h1⟩ => ?_⟩
  obtain ⟨o, e, q⟩ := h1.retE
  cases d with
  | int i => cases e; exact ⟨i, r1.int_, q _ F1 H1 (GoC.refl S1.fh) S1 rfl⟩
  | _ => cases e
def cutD (ds : List D) (lo hi : Option Int) : List D := (ds.drop (HT.sIx ds.length 0 lo)).take (HT.sIx ds.length ds.length hi - HT.sIx ds.length 0 lo)
def oSl (lo hi : Option Int) : D → Option D
  | .lst ds => some (.lst (cutD ds lo hi))
  | .tup ds => if HT.sIx ds.length 0 lo = 0 ∧ HT.sIx ds.length ds.length hi = ds.length then none else some (.tup (cutD ds lo hi))
  | .str x => if x.length ≤ sizeLine then some (.str (cutS x lo hi)) else none
  | _ => none
def mSl (m : M) (ml mh : Mo (Option Int)) : M := mb m fun d => mb ml fun lo => mb mh fun hi => ret (oSl lo hi d)
def rSl (K : PySem.W.Frag) : V → Option Int → Option Int → Hp → VK → Prop := fun x lo hi H Q => rSlL K x lo hi H Q ∨ (fun x lo hi H Q => rSlT K x lo hi H Q ∨ rSlS x lo hi H Q : V → Option Int → Option Int → Hp → VK → Prop) x lo hi H Q
theorem sl_all : SlR X (rSl X.K) := sl_list.or (sl_tup.or sl_str)
theorem cut_pair {K : PySem.W.Frag} {G H G' H' : Hp} {vs : List V} {ds : List D} (l : vs.length = ds.length) (c : ∀ (i : Nat) v d, vs[i]? = some v → ds[i]? = some d → Rp K G' H' 0 v d (fun _ => False)) (lo hi : Option Int) :
    (cutV vs lo hi).length = (cutD ds lo hi).length ∧ ∀ (i : Nat) v d, (cutV vs lo hi)[i]? = some v → (cutD ds lo hi)[i]? = some d → Rp K G' H' 0 v d (fun _ => False) := by
  unfold cutV cutD
  rw [l]
  refine ⟨by rw [List.length_take, List.length_take, List.length_drop, List.length_drop, l], fun i v d h1 h2 => ?_⟩
  rw [List.getElem?_take] at h1 h2
  split at h1
  · rename_i hi
    rw [if_pos hi] at h2
    rw [List.getElem?_drop] at h1 h2
    exact c _ v d h1 h2
  · cases h1
theorem tSl_of {ml mh : Mo (Option Int)} {Rr : Hp → Hp → Hp → V → D → Prop} (htr : ∀ F H F1 H1 F2 H2 v d, GoC C.q F H F1 H1 → Rr H1 F2 H2 v d → Rr H F2 H2 v d)
    (hend : ∀ F B σ H n ds x d d' lo hi (Q : VK), Sim C F B σ H n ds → Rp C.K (rg C.q g F H) H 0 x d (fun _ => False) → oSl lo hi d = some d' → (∀ v F' H', GoC C.q F H F' H' → Sim C F' B σ H' n ds → Rr H F' H' v d' → Q v H') → rSl C.K x lo hi H Q)
    {σ : L2.St} {H : Hp} {Q : VK} (w : WW C wx Rr (mSl m ml mh) σ H Q) : tSl (rSl C.K) (W C wx g 0 m) (WO C wx ml) (WO C wx mh) σ H Q := by
  obtain ⟨F, B, n, ds, S, h⟩ := w
  refine ⟨F, B, n, ds, S, (h.bind fun F1 H1 F2 H2 v d G r => htr _ _ _ _ _ _ _ _ G r).mono fun x H1 ⟨F1, n1, d, G1, S1, ⟨A1, r1, f1⟩, h1⟩ => ?_⟩
  refine ⟨F1, B, n1, ds, S1, (h1.bind fun F1 H1 F2 H2 v d G r => htr _ _ _ _ _ _ _ _ G r).mono fun lo H2 ⟨F2, n2, lo', G2, S2, e2, h2⟩ => ?_⟩
  have e2 : lo = lo' := e2
  subst e2
  refine ⟨F2, B, n2, ds, S2, (h2.bind fun F1 H1 F2 H2 v d G r => htr _ _ _ _ _ _ _ _ G r).mono fun hi H3 ⟨F3, n3, hi', G3, S3, e3, h3⟩ => ?_⟩
  have e3 : hi = hi' := e3
  subst e3
  obtain ⟨d4, e4, q⟩ := h3.retE
  exact hend F3 B σ H3 n3 ds x d d4 lo hi Q S3 (Rp.go0 (g := g) r1 (G2.trans G3)) e4 q
/-- a[lo:hi]: a new thing of one's own | to be read now -/
theorem ve_sl1 {lo hi : Option Expr} {ml mh : Mo (Option Int)} {p2 : Pos} (ha : PE X a (W C wx .fz 0 m)) (hl : PO X lo (WO C wx ml)) (hh : PO X hi (WO C wx mh)) (hK : X.K = C.K := by rfl) : PE X (.Subscript a (.Slice lo hi none p2) pos) (W C wx .fz 1 (mSl m ml mh)) := by
  refine (pe_slice sl_all ha hl hh).wk fun σ H Q w => ?_
  rw [hK]
  refine tSl_of (g := .fz) (fun F H F1 H1 F2 H2 v d G r => r.tr G) (fun F B σ H n ds x d d' lo hi Q S r e q => ?_) w
  cases r with
  | lst h l c =>
    cases e
    refine .inl ⟨_, _, rfl, sqL_mono h S.fh, fun p hp => ?_⟩
    obtain ⟨G2, S2⟩ := S.newO (o := .lst (cutV _ lo hi)) hp
    obtain ⟨l2, c2⟩ := cut_pair (G := F) (H := H) l (fun i v d a b => Rp.go0 (g := .fz) (c i v d a b) G2) lo hi
    exact q (.ref p) F _ G2 S2 ⟨fun a => a = p, .lstO (fun _ _ => False) upd_same rfl l2 c2 (fun _ _ h => h.elim) (fun _ _ _ h => h.elim), Fr.one S.fh hp rfl⟩
  | tup h l c =>
    simp only [oSl] at e
    split at e
    · cases e
    · rename_i hn
      cases e
      refine .inr (.inl ⟨_, _, rfl, h, by rw [l]; exact hn, fun p hp => ?_⟩)
      obtain ⟨G2, S2⟩ := S.newO (o := .tup (cutV _ lo hi)) hp
      obtain ⟨l2, c2⟩ := cut_pair (G := F) (H := H) l (fun i v d a b => Rp.go0 (g := .fz) (c i v d a b) G2) lo hi
      exact q (.ref p) F _ G2 S2 ⟨fun _ => False, .tup (.inl (.inl upd_same)) l2 c2, Fr.no⟩
  | str =>
    simp only [oSl] at e
    split at e
    · rename_i hz
      cases e
      exact .inr (.inr ⟨_, rfl, hz, q _ F H (GoC.refl S.fh) S ⟨fun _ => False, .str, Fr.no⟩⟩)
    · cases e
  | _ => cases e
theorem ve_slb {lo hi : Option Expr} {ml mh : Mo (Option Int)} {p2 : Pos} (ha : PE X a (W C wx .bo 0 m)) (hl : PO X lo (WO C wx ml)) (hh : PO X hi (WO C wx mh)) (hK : X.K = C.K := by rfl) : PE X (.Subscript a (.Slice lo hi none p2) pos) (W C wx .bo 0 (mSl m ml mh)) := by
  refine (pe_slice sl_all ha hl hh).wk fun σ H Q w => ?_
  rw [hK]
  refine tSl_of (g := .bo) (fun F H F1 H1 F2 H2 v d G r => r.tr G) (fun F B σ H n ds x d d' lo hi Q S r e q => ?_) w
  cases r with
  | lst h l c =>
    cases e
    refine .inl ⟨_, _, rfl, sqL_mono h (rg_same S.fh), fun p hp => ?_⟩
    obtain ⟨G2, S2⟩ := S.newO (o := .lst (cutV _ lo hi)) hp
    obtain ⟨l2, c2⟩ := cut_pair (G := F) (H := H) l (fun i v d a b => Rp.go0 (g := .bo) (c i v d a b) G2) lo hi
    exact q (.ref p) F _ G2 S2 (RV_of0 (.lst (.inl (.inl (rg_self (S.nqp hp)))) l2 c2))
  | tup h l c =>
    simp only [oSl] at e
    split at e
    · cases e
    · rename_i hn
      cases e
      refine .inr (.inl ⟨_, _, rfl, h, by rw [l]; exact hn, fun p hp => ?_⟩)
      obtain ⟨G2, S2⟩ := S.newO (o := .tup (cutV _ lo hi)) hp
      obtain ⟨l2, c2⟩ := cut_pair (G := F) (H := H) l (fun i v d a b => Rp.go0 (g := .bo) (c i v d a b) G2) lo hi
      exact q (.ref p) F _ G2 S2 (RV_of0 (.tup (.inl (.inl upd_same)) l2 c2))
  | str =>
    simp only [oSl] at e
    split at e
    · rename_i hz
      cases e
      exact .inr (.inr ⟨_, rfl, hz, q _ F H (GoC.refl S.fh) S (RV_of0 .str)⟩)
    · cases e
  | _ => cases e
end
end GW

namespace GW
open PySem L2
section
variable {X : Cx} {C : Ctx} {wx : WX} {g : Rg} {k : Nat} {a b c e : Expr} {es : List Expr} {p pos : Pos} {x : Str} {bid bT : String} {ms : Mo (List D)} {m : M}
/-! ### built-in functions that give a scalar -/
def mCB (ms : Mo (List D)) (o : List D → Option D) : M := mb ms fun ds => ret (o ds)
def CalS (K : PySem.W.Frag) (r : List V → Hp → VK → Prop) (o : List D → Option D) : Prop := ∀ (G H : Hp) (vs : List V) (ds : List D) (d : D), Same G H → RpL K G H vs ds → o ds = some d → ∃ v, scV d = some v ∧ ∀ Q : VK, Q v H → r vs H Q
theorem tCB_of {r : List V → Hp → VK → Prop} {o : List D → Option D} (ho : CalS C.K r o) {σ : L2.St} {H : Hp} {Q : VK} (w : W C wx g k (mCB ms o) σ H Q) : tCB r (WA C wx .bo ms) σ H Q := by
  obtain ⟨F, B, n, ds, S, h⟩ := w
  refine ⟨F, B, n, ds, S, (h.bind fun F1 H1 F2 H2 v d G r => r.tr G).mono fun xs H1 ⟨F1, n1, da, G1, S1, r1, h1⟩ => ?_⟩
  obtain ⟨d, e, q⟩ := h1.sc S1
  obtain ⟨v, hv, hr⟩ := ho _ _ xs da d (rg_same S1.fh) r1 e
  exact hr Q (q v hv)
theorem ve_callB {r : List V → Hp → VK → Prop} {o : List D → Option D} (hc : CallR X (.builtin bid) r) (ho : CalS C.K r o) (hm : X.mg x = none) (hv : bootBuiltins x = some (.builtin bid)) (ha : PA X (e :: es) (WA C wx .bo ms)) (hg : Gl X x := by rfl) (hn : x ≠ "__name__" := by decide) (hdb : (x == ("__debug__" : Str)) = false := by decide)
    (hs : starEach (e :: es) X.env = (false, eval e X.env) :: starEach es X.env := by rfl) (hpl : (backTo pos (starEach es X.env)).any (·.1) = false := by rfl) : PE X (.Call (.Name x p) (e :: es) [] pos) (W C wx g k (mCB ms o)) :=
  (pe_callB hc hg hm hv ha hn hdb hs hpl).wk fun σ H Q w => tCB_of ho w
theorem ve_callTy {r : List V → Hp → VK → Prop} {o : List D → Option D} (hc : CallR X (.type bT) r) (ho : CalS C.K r o) (hm : X.mg x = none) (hv : bootBuiltins x = some (.type bT)) (ha : PA X (e :: es) (WA C wx .bo ms)) (hg : Gl X x := by rfl) (hn : x ≠ "__name__" := by decide) (hdb : (x == ("__debug__" : Str)) = false := by decide)
    (hs : starEach (e :: es) X.env = (false, eval e X.env) :: starEach es X.env := by rfl) (hpl : (backTo pos (starEach es X.env)).any (·.1) = false := by rfl) : PE X (.Call (.Name x p) (e :: es) [] pos) (W C wx g k (mCB ms o)) :=
  (pe_callTy hc hg hm hv ha hn hdb hs hpl).wk fun σ H Q w => tCB_of ho w
/-- len -/
def oLen : List D → Option D
  | [.str x] => if x.length ≤ sizeLine then some (.int x.length) else none
  | [.tup ds] => some (.int ds.length)
  | [.lst ds] => some (.int ds.length)
  | [.dct ds] => some (.int ds.length)
  | _ => none
def rLenA (K : PySem.W.Frag) : List V → Hp → VK → Prop := fun xs H Q => (∃ x n, xs = [x] ∧ LenV K x H n ∧ Q (.int n) H) ∨ (∃ a kvs, xs = [V.ref a] ∧ H a = some (.dK kvs) ∧ Q (.int kvs.length) H)
theorem cr_lenA : CallR X (.builtin "len") (rLenA X.K) := call_len.or call_lenD
theorem RpL.one {K : PySem.W.Frag} {G H : Hp} {vs : List V} {d : D} (r : RpL K G H vs [d]) : ∃ v, vs = [v] ∧ Rp K G H 0 v d (fun _ => False) := by
  obtain ⟨l, c⟩ := r
  match vs, l with
  | [v], _ => exact ⟨v, rfl, c 0 v d rfl rfl⟩
theorem RpL.two {K : PySem.W.Frag} {G H : Hp} {vs : List V} {d d' : D} (r : RpL K G H vs [d, d']) : ∃ v v', vs = [v, v'] ∧ Rp K G H 0 v d (fun _ => False) ∧ Rp K G H 0 v' d' (fun _ => False) := by
  obtain ⟨l, c⟩ := r
  match vs, l with
  | [v, v'], _ => exact ⟨v, v', rfl, c 0 v d rfl rfl, c 1 v' d' rfl rfl⟩
theorem cs_len {K : PySem.W.Frag} : CalS K (rLenA K) oLen := by
  intro G H vs ds d hs r0 e
  unfold oLen at e
  split at e
  · obtain ⟨v, rfl, r⟩ := r0.one
    split at e
    · rename_i hl; cases e
      exact ⟨_, rfl, fun Q q => .inl ⟨_, _, rfl, by rw [r.str_]; exact ⟨hl, rfl⟩, q⟩⟩
    · cases e
  · obtain ⟨v, rfl, r⟩ := r0.one
    cases e
    cases r with
    | tup h l c => exact ⟨_, rfl, fun Q q => .inl ⟨_, _, rfl, .inr ⟨_, h, l.symm⟩, q⟩⟩
  · obtain ⟨v, rfl, r⟩ := r0.one
    cases e
    cases r with
    | lst h l c => exact ⟨_, rfl, fun Q q => .inl ⟨_, _, rfl, .inl ⟨_, sqL_mono h hs, l.symm⟩, q⟩⟩
  · obtain ⟨v, rfl, r⟩ := r0.one
    cases e
    cases r with
    | dct h l c =>
      refine ⟨_, rfl, fun Q q => .inr ⟨_, _, rfl, hs _ _ h, ?_⟩⟩
      have := congrArg List.length l
      rw [List.length_map, List.length_map] at this
      rw [this]; exact q
  · cases e
theorem ve_len (hm : X.mg "len" = none) (ha : PA X [e] (WA C wx .bo ms)) (hg : Gl X "len" := by rfl) (hs : starEach [e] X.env = (false, eval e X.env) :: starEach [] X.env := by rfl) (hpl : (backTo pos (starEach [] X.env)).any (·.1) = false := by rfl) (hK : X.K = C.K := by rfl) : PE X (.Call (.Name "len" p) [e] [] pos) (W C wx g k (mCB ms oLen)) :=
  ve_callB (r := rLenA C.K) (by rw [← hK]; exact cr_lenA) cs_len hm PySem.boot_len ha hg (hs := hs) (hpl := hpl)
/-- abs, ord, int -/
def oAbs : List D → Option D
  | [.int i] => some (.int (if i < 0 then -i else i))
  | _ => none
theorem cs_abs {K : PySem.W.Frag} : CalS K (fun xs H Q => ∃ i, xs = [.int i] ∧ Q (.int (if i < 0 then -i else i)) H) oAbs := by
  intro G H vs ds d hs r0 e
  unfold oAbs at e
  split at e
  · obtain ⟨v, rfl, r⟩ := r0.one
    cases e
    exact ⟨_, rfl, fun Q q => ⟨_, by rw [r.int_], q⟩⟩
  · cases e
theorem ve_abs (hm : X.mg "abs" = none) (ha : PA X [e] (WA C wx .bo ms)) (hg : Gl X "abs" := by rfl) (hs : starEach [e] X.env = (false, eval e X.env) :: starEach [] X.env := by rfl) (hpl : (backTo pos (starEach [] X.env)).any (·.1) = false := by rfl) : PE X (.Call (.Name "abs" p) [e] [] pos) (W C wx g k (mCB ms oAbs)) :=
  ve_callB call_abs cs_abs hm PyProof.Rows.boot_abs ha hg (hs := hs) (hpl := hpl)
def oOrd : List D → Option D
  | [.str x] => if x.length = 1 then some (.int (x.cps.getD 0 0 : Nat)) else none
  | _ => none
theorem cs_ord {K : PySem.W.Frag} : CalS K (fun xs H Q => ∃ x, xs = [.str x] ∧ x.length = 1 ∧ Q (.int (x.cps.getD 0 0 : Nat)) H) oOrd := by
  intro G H vs ds d hs r0 e
  unfold oOrd at e
  split at e
  · obtain ⟨v, rfl, r⟩ := r0.one
    split at e
    · rename_i hl; cases e
      exact ⟨_, rfl, fun Q q => ⟨_, by rw [r.str_], hl, q⟩⟩
    · cases e
  · cases e
theorem ve_ord (hm : X.mg "ord" = none) (ha : PA X [e] (WA C wx .bo ms)) (hg : Gl X "ord" := by rfl) (hs : starEach [e] X.env = (false, eval e X.env) :: starEach [] X.env := by rfl) (hpl : (backTo pos (starEach [] X.env)).any (·.1) = false := by rfl) : PE X (.Call (.Name "ord" p) [e] [] pos) (W C wx g k (mCB ms oOrd)) :=
  ve_callB call_ord cs_ord hm PyProof.Rows.boot_ord ha hg (hs := hs) (hpl := hpl)
def oInt1 : List D → Option D
  | [.int i] => some (.int i)
  | [.bl b] => some (.int (if b then 1 else 0))
  | _ => none
theorem cs_int1 {K : PySem.W.Frag} : CalS K (fun xs H Q => (∃ i, xs = [.int i] ∧ Q (.int i) H) ∨ ∃ k, xs = [.bl k] ∧ Q (.int (if k then 1 else 0)) H) oInt1 := by
  intro G H vs ds d hs r0 e
  unfold oInt1 at e
  split at e
  · obtain ⟨v, rfl, r⟩ := r0.one
    cases e
    exact ⟨_, rfl, fun Q q => .inl ⟨_, by rw [r.int_], q⟩⟩
  · obtain ⟨v, rfl, r⟩ := r0.one
    cases e
    exact ⟨_, rfl, fun Q q => .inr ⟨_, by rw [r.bl_], q⟩⟩
  · cases e
theorem ve_int1 (hm : X.mg "int" = none) (ha : PA X [e] (WA C wx .bo ms)) (hg : Gl X "int" := by rfl) (hs : starEach [e] X.env = (false, eval e X.env) :: starEach [] X.env := by rfl) (hpl : (backTo pos (starEach [] X.env)).any (·.1) = false := by rfl) : PE X (.Call (.Name "int" p) [e] [] pos) (W C wx g k (mCB ms oInt1)) :=
  ve_callTy call_int1 cs_int1 hm PyProof.Rows.boot_int ha hg (hs := hs) (hpl := hpl)
/-- of lists of bools, of ints -/
def blsD : List D → Option (List Bool)
  | [] => some []
  | .bl b :: r => (blsD r).map (b :: ·)
  | _ :: _ => none
def intsD : List D → Option (List Int)
  | [] => some []
  | .int b :: r => (intsD r).map (b :: ·)
  | _ :: _ => none
theorem RpL.tail {K : PySem.W.Frag} {G H : Hp} {v : V} {vs : List V} {d : D} {ds : List D} (r : RpL K G H (v :: vs) (d :: ds)) : Rp K G H 0 v d (fun _ => False) ∧ RpL K G H vs ds :=
  ⟨r.2 0 v d rfl rfl, by simpa using r.1, fun i v' d' h1 h2 => r.2 (i + 1) v' d' (by simpa using h1) (by simpa using h2)⟩
theorem bls_of {K : PySem.W.Frag} {G H : Hp} : ∀ {vs : List V} {ds : List D} {bs : List Bool}, RpL K G H vs ds → blsD ds = some bs → vs = bs.map V.bl
  | [], [], bs, _, e => by cases e; rfl
  | [], _ :: _, _, r, _ => by cases r.1
  | _ :: _, [], _, r, _ => by cases r.1
  | v :: vs, d :: ds, bs, r, e => by
    obtain ⟨r1, r2⟩ := r.tail
    cases d <;> simp only [blsD] at e <;> first | cases e | skip
    rename_i b
    cases h : blsD ds with
    | none => rw [h] at e; cases e
    | some l => rw [h] at e; cases e; rw [r1.bl_, bls_of r2 h]; rfl
theorem ints_of {K : PySem.W.Frag} {G H : Hp} : ∀ {vs : List V} {ds : List D} {bs : List Int}, RpL K G H vs ds → intsD ds = some bs → vs = bs.map V.int
  | [], [], bs, _, e => by cases e; rfl
  | [], _ :: _, _, r, _ => by cases r.1
  | _ :: _, [], _, r, _ => by cases r.1
  | v :: vs, d :: ds, bs, r, e => by
    obtain ⟨r1, r2⟩ := r.tail
    cases d <;> simp only [intsD] at e <;> first | cases e | skip
    rename_i b
    cases h : intsD ds with
    | none => rw [h] at e; cases e
    | some l => rw [h] at e; cases e; rw [r1.int_, ints_of r2 h]; rfl
theorem RpL.of {K : PySem.W.Frag} {G H : Hp} {vs : List V} {ds : List D} {A : AS} (l : vs.length = ds.length) (c : ∀ (i : Nat) v d, vs[i]? = some v → ds[i]? = some d → Rp K G H 0 v d A) : RpL K G H vs ds := ⟨l, fun i v d a b => (c i v d a b).z⟩
def oAll : List D → Option D
  | [.lst ds] => (blsD ds).map fun bs => .bl (bs.all id)
  | _ => none
def oAny : List D → Option D
  | [.lst ds] => (blsD ds).map fun bs => .bl (bs.any id)
  | _ => none
def oSum : List D → Option D
  | [.lst ds] => (intsD ds).map fun bs => .int bs.sum
  | _ => none
theorem cs_all {K : PySem.W.Frag} : CalS K (rAll K) oAll := by
  intro G H vs ds d hs r0 e
  unfold oAll at e
  split at e
  · rename_i l
    obtain ⟨v, rfl, r⟩ := r0.one
    cases hb : blsD l with
    | none => rw [hb] at e; cases e
    | some bs =>
      rw [hb] at e; cases e
      cases r with
      | lst h l c => 
        have := bls_of (RpL.of l c) hb
        subst this
        exact ⟨_, rfl, fun Q q => ⟨_, _, rfl, sqL_mono h hs, q⟩⟩
  · cases e
theorem cs_any {K : PySem.W.Frag} : CalS K (rAny K) oAny := by
  intro G H vs ds d hs r0 e
  unfold oAny at e
  split at e
  · rename_i l
    obtain ⟨v, rfl, r⟩ := r0.one
    cases hb : blsD l with
    | none => rw [hb] at e; cases e
    | some bs =>
      rw [hb] at e; cases e
      cases r with
      | lst h l c => 
        have := bls_of (RpL.of l c) hb
        subst this
        exact ⟨_, rfl, fun Q q => ⟨_, _, rfl, sqL_mono h hs, q⟩⟩
  · cases e
theorem cs_sum {K : PySem.W.Frag} : CalS K (rSum K) oSum := by
  intro G H vs ds d hs r0 e
  unfold oSum at e
  split at e
  · rename_i l
    obtain ⟨v, rfl, r⟩ := r0.one
    cases hb : intsD l with
    | none => rw [hb] at e; cases e
    | some bs =>
      rw [hb] at e; cases e
      cases r with
      | lst h l c => 
        have := ints_of (RpL.of l c) hb
        subst this
        exact ⟨_, rfl, fun Q q => ⟨_, _, rfl, sqL_mono h hs, q⟩⟩
  · cases e
theorem ve_all (hm : X.mg "all" = none) (ha : PA X [e] (WA C wx .bo ms)) (hg : Gl X "all" := by rfl) (hs : starEach [e] X.env = (false, eval e X.env) :: starEach [] X.env := by rfl) (hpl : (backTo pos (starEach [] X.env)).any (·.1) = false := by rfl) (hc : X.calm = true := by rfl) (hK : X.K = C.K := by rfl) : PE X (.Call (.Name "all" p) [e] [] pos) (W C wx g k (mCB ms oAll)) :=
  ve_callB (r := rAll C.K) (by rw [← hK]; exact cr_all hc) cs_all hm PyProof.Rows.boot_all ha hg (hs := hs) (hpl := hpl)
theorem ve_any (hm : X.mg "any" = none) (ha : PA X [e] (WA C wx .bo ms)) (hg : Gl X "any" := by rfl) (hs : starEach [e] X.env = (false, eval e X.env) :: starEach [] X.env := by rfl) (hpl : (backTo pos (starEach [] X.env)).any (·.1) = false := by rfl) (hc : X.calm = true := by rfl) (hK : X.K = C.K := by rfl) : PE X (.Call (.Name "any" p) [e] [] pos) (W C wx g k (mCB ms oAny)) :=
  ve_callB (r := rAny C.K) (by rw [← hK]; exact cr_any hc) cs_any hm PyProof.Rows.boot_any ha hg (hs := hs) (hpl := hpl)
theorem ve_sum (hm : X.mg "sum" = none) (ha : PA X [e] (WA C wx .bo ms)) (hg : Gl X "sum" := by rfl) (hs : starEach [e] X.env = (false, eval e X.env) :: starEach [] X.env := by rfl) (hpl : (backTo pos (starEach [] X.env)).any (·.1) = false := by rfl) (hc : X.calm = true := by rfl) (hK : X.K = C.K := by rfl) : PE X (.Call (.Name "sum" p) [e] [] pos) (W C wx g k (mCB ms oSum)) :=
  ve_callB (r := rSum C.K) (by rw [← hK]; exact cr_sum hc) cs_sum hm PyProof.Rows.boot_sum ha hg (hs := hs) (hpl := hpl)
/-! ### isinstance of a built-in class -/
def tyN : D → Option String
  | .non => some "NoneType"
  | .bl _ => some "bool"
  | .int _ => some "int"
  | .str _ => some "str"
  | .tup _ => some "tuple"
  | .lst _ => some "list"
  | .dct _ => some "dict"
  | _ => none
def isT (T : String) : D → Option Bool
  | .non => some false
  | .bl _ => some (T == "bool" || T == "int")
  | .int _ => some (T == "int")
  | .str _ => some (T == "str")
  | .tup _ => some (T == "tuple")
  | .lst _ => some (T == "list")
  | .dct _ => some (T == "dict")
  | _ => none
def okT (T : String) : Bool := T == "int" || T == "bool" || T == "str" || T == "list" || T == "tuple" || T == "dict"
theorem isT_kit {T : String} (hT : okT T = true) {d : D} {b : Bool} {t : String} (e : isT T d = some b) (h : tyN d = some t) : kitB t T = some b := by
  simp only [okT, Bool.or_eq_true, beq_iff_eq] at hT
  cases d <;> simp only [tyN, Option.some.injEq, isT] at e h <;> first | cases h | skip
  all_goals (subst e; rcases hT with ((((hT | hT) | hT) | hT) | hT) | hT <;> subst hT <;> decide +kernel)
theorem tyX_of {K : PySem.W.Frag} {G H : Hp} {x : V} {d : D} {A : AS} {t : String} (hs : Same G H) (r : Rp K G H 0 x d A) (h : tyN d = some t) : TyX K H x (.type t) := by
  revert h
  cases r with
  | non => intro h; cases h; exact .base .non
  | bl => intro h; cases h; exact .base (.bl _)
  | int => intro h; cases h; exact .base (.int _)
  | str => intro h; cases h; exact .base (.str _)
  | tup hh l c =>
    intro h; cases h
    rcases hh with (hh | ⟨o, hh⟩) | ⟨o, its, n, h1, h2, _⟩
    · exact .base (.tup hh)
    · exact .fTuple hh
    · exact .kTuple h1 h2
  | lst hh l c =>
    intro h; cases h
    rcases hh with (hh | ⟨o, hh⟩) | ⟨o, its, n, h1, h2, _⟩
    · exact .base (.lst (hs _ _ hh))
    · exact .base (.frz (hs _ _ hh))
    · exact .kList h1 h2
  | dct hh l c => intro h; cases h; exact .base (.dK (hs _ _ hh))
  | obj => intro h; cases h
def oIsi (T : String) (d : D) : Option D := (isT T d).map D.bl
theorem isT_ty {T : String} {d : D} {b : Bool} (e : isT T d = some b) : ∃ t, tyN d = some t := by
  cases d <;> first | exact ⟨_, rfl⟩ | cases e
theorem ve_isi {m : M} {y : Str} {p2 : Pos} {T : String} (hm : X.mg "isinstance" = none) (hmT : X.mg y = none) (hvT : bootBuiltins y = some (.type T)) (hT : okT T = true) (ha : PE X e (W C wx .bo 0 m)) (hgT : Gl X y := by rfl) (hnT : y ≠ "__name__" := by decide) (hdT : (y == ("__debug__" : Str)) = false := by decide) (hg : Gl X "isinstance" := by rfl)
    (hs : starEach [e, .Name y p2] X.env = (false, eval e X.env) :: starEach [.Name y p2] X.env := by rfl) (hs2 : starEach [.Name y p2] X.env = (false, eval (.Name y p2) X.env) :: starEach [] X.env := by rfl) (hpl : (backTo pos (starEach [.Name y p2] X.env)).any (·.1) = false := by rfl) (hK : X.K = C.K := by rfl) :
    PE X (.Call (.Name "isinstance" p) [e, .Name y p2] [] pos) (W C wx g k (m1 m (oIsi T))) := by
  refine (pe_callB call_isi hg hm PyProof.Rows.boot_isinstance (pa_cons ha (pa_cons (pe_bltn (v := .ty T) hgT hmT hvT rfl hnT hdT) pa_nil hs2) hs) (by decide) (by decide) hs hpl).wk fun σ H Q w => ?_
  obtain ⟨F, B, n, ds, S, h⟩ := w
  refine ⟨F, B, n, ds, S, (h.bind fun F1 H1 F2 H2 v d G r => r.tr G).mono fun x H1 ⟨F1, n1, d, G1, S1, ⟨A1, r1, f1⟩, h1⟩ => ?_⟩
  obtain ⟨d2, e2, q⟩ := h1.sc S1
  cases hb : isT T d with
  | none => simp [oIsi, hb] at e2
  | some bb =>
    simp only [oIsi, hb, Option.map_some, Option.some.injEq] at e2
    subst e2
    obtain ⟨t, ht⟩ := isT_ty hb
    rw [hK]
    exact ⟨x, .ty T, .type t, .type T, bb, rfl, .ty T, tyX_of (rg_same S1.fh) r1 ht, kit_ty (isT_kit hT hb ht), q _ rfl⟩
/-! ### divmod, tuple(..), list(..): a new thing -/
def oDivmod : List D → Option D
  | [.int i, .int j] => if divOk j = true then some (.tup [.int (i / j), .int (i % j)]) else none
  | _ => none
theorem divOk.pp {i j : Int} (h : divOk j = true) : CDivP i j := by
  have q : CDivW i j := divOk.ok h
  exact ⟨q.1, PyProof.noPylong_of_log2 q.2⟩
theorem ve_divmod (hm : X.mg "divmod" = none) (ha : PA X (e :: es) (WA C wx .bo ms)) (hg : Gl X "divmod" := by rfl)
    (hs : starEach (e :: es) X.env = (false, eval e X.env) :: starEach es X.env := by rfl) (hpl : (backTo pos (starEach es X.env)).any (·.1) = false := by rfl) : PE X (.Call (.Name "divmod" p) (e :: es) [] pos) (W C wx g k (mCB ms oDivmod)) := by
  refine (pe_callB call_divmodW hg hm PyProof.Rows.boot_divmod ha (by decide) (by decide) hs hpl).wk fun σ H Q w => ?_
  obtain ⟨F, B, n, ds, S, h⟩ := w
  refine ⟨F, B, n, ds, S, (h.bind fun F1 H1 F2 H2 v d G r => r.tr G).mono fun xs H1 ⟨F1, n1, da, G1, S1, r1, h1⟩ => ?_⟩
  obtain ⟨d, e, q⟩ := h1.retE
  unfold oDivmod at e
  split at e
  · split at e
    · rename_i i j hd
      cases e
      obtain ⟨v, v', rfl, ra, rb⟩ := r1.two
      refine ⟨i, j, by rw [ra.int_, rb.int_], divOk.pp hd, fun p hp => ?_⟩
      obtain ⟨G2, S2⟩ := S1.newO (o := .tup [.int (i / j), .int (i % j)]) hp
      exact q (.ref p) F1 _ G2 S2 (RV_of0 (.tup (.inl (.inl upd_same)) rfl (RpL.cons (A := fun _ => False) .int (RpL.cons (A := fun _ => False) .int RpL.nil)).2))
    · cases e
  · cases e
def oTuple : List D → Option D
  | [.lst ds] => some (.tup ds)
  | [.tup ds] => some (.tup ds)
  | _ => none
theorem ve_tuple (hm : X.mg "tuple" = none) (ha : PA X [e] (WA C wx g ms)) (hg : Gl X "tuple" := by rfl)
    (hs : starEach [e] X.env = (false, eval e X.env) :: starEach [] X.env := by rfl) (hpl : (backTo pos (starEach [] X.env)).any (·.1) = false := by rfl) (hK : X.K = C.K := by rfl) : PE X (.Call (.Name "tuple" p) [e] [] pos) (W C wx g k (mCB ms oTuple)) := by
  refine (pe_callTy call_tuple_of hg hm PyProof.Rows.boot_tuple ha (by decide) (by decide) hs hpl).wk fun σ H Q w => ?_
  obtain ⟨F, B, n, ds, S, h⟩ := w
  refine ⟨F, B, n, ds, S, (h.bind fun F1 H1 F2 H2 v d G r => r.tr G).mono fun xs H1 ⟨F1, n1, da, G1, S1, r1, h1⟩ => ?_⟩
  obtain ⟨d, e, q⟩ := h1.retE
  unfold oTuple at e
  split at e
  · cases e
    obtain ⟨v, rfl, r⟩ := r1.one
    cases r with
    | lst hh l c =>
      rw [hK]
      refine ⟨_, _, rfl, .inl ⟨sqL_mono hh (rg_same S1.fh), fun p hp => ?_⟩⟩
      obtain ⟨G2, S2⟩ := S1.newO (o := .tup _) hp
      exact q (.ref p) F1 _ G2 S2 (RV_of0 (.tup (.inl (.inl upd_same)) l fun i v d a b => Rp.go0 (c i v d a b) G2))
  · cases e
    obtain ⟨v, rfl, r⟩ := r1.one
    cases r with
    | tup hh l c =>
      rw [hK]
      exact ⟨_, _, rfl, .inr ⟨hh, q _ F1 H1 (GoC.refl S1.fh) S1 (RV_of0 (.tup hh l c))⟩⟩
  · cases e
def oList : List D → Option D
  | [.lst ds] => some (.lst ds)
  | [.tup ds] => some (.lst ds)
  | _ => none
theorem ve_list (hm : X.mg "list" = none) (ha : PA X [e] (WA C wx .fz ms)) (hg : Gl X "list" := by rfl)
    (hs : starEach [e] X.env = (false, eval e X.env) :: starEach [] X.env := by rfl) (hpl : (backTo pos (starEach [] X.env)).any (·.1) = false := by rfl) (hK : X.K = C.K := by rfl) : PE X (.Call (.Name "list" p) [e] [] pos) (W C wx .fz 1 (mCB ms oList)) := by
  refine (pe_callTy call_list_of hg hm PyProof.Rows.boot_list ha (by decide) (by decide) hs hpl).wk fun σ H Q w => ?_
  obtain ⟨F, B, n, ds, S, h⟩ := w
  refine ⟨F, B, n, ds, S, (h.bind fun F1 H1 F2 H2 v d G r => r.tr G).mono fun xs H1 ⟨F1, n1, da, G1, S1, r1, h1⟩ => ?_⟩
  obtain ⟨d, e, q⟩ := h1.retE
  unfold oList at e
  split at e
  · cases e
    obtain ⟨v, rfl, r⟩ := r1.one
    cases r with
    | lst hh l c =>
      rw [hK]
      refine ⟨_, _, rfl, .inl (sqL_mono hh S1.fh), fun p hp => ?_⟩
      obtain ⟨G2, S2⟩ := S1.newO (o := .lst _) hp
      exact q (.ref p) F1 _ G2 S2 ⟨fun a => a = p, .lstO (fun _ _ => False) upd_same rfl l (fun i v d a b => Rp.go0 (g := .fz) (c i v d a b) G2) (fun _ _ h => h.elim) (fun _ _ _ h => h.elim), Fr.one S1.fh hp rfl⟩
  · cases e
    obtain ⟨v, rfl, r⟩ := r1.one
    cases r with
    | tup hh l c =>
      rw [hK]
      refine ⟨_, _, rfl, .inr hh, fun p hp => ?_⟩
      obtain ⟨G2, S2⟩ := S1.newO (o := .lst _) hp
      exact q (.ref p) F1 _ G2 S2 ⟨fun a => a = p, .lstO (fun _ _ => False) upd_same rfl l (fun i v d a b => Rp.go0 (g := .fz) (c i v d a b) G2) (fun _ _ h => h.elim) (fun _ _ _ h => h.elim), Fr.one S1.fh hp rfl⟩
  · cases e

/-! ### a def's promise, its call -/
abbrev FM := Int → List D → Option (Ot D × Int)
def pureF (f : List D → Option (Ot D)) : FM := fun n ds => (f ds).map fun o => (o, n)
def spM (K : PySem.W.Frag) (ci : Option Nat) (np kr : Nat) (fm : FM) : Sp := fun vs H Q E => vs.length = np ∧ ∃ (F : Hp) (q : Option Addr) (n : Int) (ds : List D), Same F H ∧ (ci = none → q = none) ∧
  (∀ i, ci = some i → ∃ a, q = some a ∧ vs[i]? = some (.ref a) ∧ H a = some (.lst [.int n]) ∧ F a = none) ∧ vs.length = ds.length ∧
  (∀ (i : Nat) v d, ci ≠ some i → vs[i]? = some v → ds[i]? = some d → Rp K F H 0 v d (fun _ => False)) ∧
  match fm n ds with
  | none => False
  | some (.ok d, n') => ∀ v F' H', GoC q F H F' H' → (∀ a, q = some a → H' a = some (.lst [.int n'])) → (∃ A, Rp K F' H' kr v d A ∧ Fr F' H H' A) → Q v H'
  | some (.ex c fs, n') => ∀ F' H' od, GoC q F H F' H' → (∀ a, q = some a → H' a = some (.lst [.int n'])) → ExR H' od fs → E (.ref c) od H'
def qOf (ci : Option Nat) (q : Option Addr) : Option Addr := match ci with
  | none => none
  | some _ => q
def RAc (C : Ctx) (g : Rg) (ci : Option Nat) : Hp → Hp → Hp → List V → List D → Prop := fun _ F' H' vs ds => vs.length = ds.length ∧
  (∀ (i : Nat) v d, ci ≠ some i → vs[i]? = some v → ds[i]? = some d → Rp C.K (rg C.q g F' H') H' 0 v d (fun _ => False)) ∧ ∀ i, ci = some i → ∃ q, C.q = some q ∧ vs[i]? = some (.ref q)
abbrev WAc (C : Ctx) (wx : WX) (g : Rg) (ci : Option Nat) (m : Mo (List D)) : TA := WW C wx (RAc C g ci) m
theorem vc_all {g : Rg} (h : PA X es (WA C wx g ms)) : PA X es (WAc C wx g none ms) := by
  refine h.wk fun σ H Q w => ?_
  obtain ⟨F, B, n, ds, S, h⟩ := w
  refine ⟨F, B, n, ds, S, ?_⟩
  unfold WL at h ⊢
  cases e : ms n ds with
  | none => rw [e] at h; exact h
  | some p =>
    rw [e] at h
    obtain ⟨o, n'⟩ := p
    cases o with
    | ex c fs => exact h
    | ok d => exact fun v F' H' G S r => h v F' H' G S ⟨r.1, fun i v d _ a b => r.2 i v d a b, fun i hi => by cases hi⟩
theorem vc_cons {m : M} {ci : Option Nat} (ha : PE X e (W C wx g 0 m)) (hr : PA X es (WAc C wx g ci ms)) (hs : starEach (e :: es) X.env = (false, eval e X.env) :: starEach es X.env := by rfl) : PA X (e :: es) (WAc C wx g (ci.map (· + 1)) (mCons m ms)) := by
  refine (pa_cons ha hr hs).wk fun σ H Q w => ?_
  obtain ⟨F, B, n, ds, S, h⟩ := w
  refine ⟨F, B, n, ds, S, (h.bind fun F1 H1 F2 H2 v d G r => r).mono fun x H1 ⟨F1, n1, d, G1, S1, ⟨A1, r1, f1⟩, h1⟩ => ?_⟩
  refine ⟨F1, B, n1, ds, S1, (h1.bind fun F1 H1 F2 H2 v d G r => r).mono fun xs H2 ⟨F2, n2, d2, G2, S2, r2, h2⟩ => ?_⟩
  obtain ⟨d3, e3, q⟩ := h2.retE
  cases e3
  refine q (x :: xs) F2 H2 (GoC.refl S2.fh) S2 ⟨by simp [r2.1], fun i v' d' hi h1 h2 => ?_, fun i hi => ?_⟩
  · cases i with
    | zero =>
      simp only [List.getElem?_cons_zero, Option.some.injEq] at h1 h2
      subst h1 h2
      exact Rp.go0 r1 G2
    | succ i =>
      refine r2.2.1 i v' d' (fun z => hi ?_) (by simpa using h1) (by simpa using h2)
      rw [z]; rfl
  · cases ci with
    | none => cases hi
    | some j =>
      cases hi
      obtain ⟨q, h1, h2⟩ := r2.2.2 j rfl
      exact ⟨q, h1, by simpa using h2⟩
/-- the cell's name as an argument -/
theorem vc_cell {i : Nat} (h : PE X e (tVar i)) (hq : ∃ q, C.q = some q ∧ C.pn i = some (.ref q)) (hr : PA X es (WAc C wx g none ms)) (hs : starEach (e :: es) X.env = (false, eval e X.env) :: starEach es X.env := by rfl) : PA X (e :: es) (WAc C wx g (some 0) (mCons (mC .non) ms)) := by
  refine (pa_cons h hr hs).wk fun σ H Q w => ?_
  obtain ⟨F, B, n, ds, S, h⟩ := w
  obtain ⟨q, hq1, hq2⟩ := hq
  have h' : WL C wx (RAc C g (some 0)) (mb ms fun ds => ret (some (.non :: ds))) F B n ds σ H Q := h
  refine ⟨_, S.pin i _ hq2, ?_⟩
  refine ⟨F, B, n, ds, S, (h'.bind fun F1 H1 F2 H2 v d G r => r).mono fun xs H2 ⟨F2, n2, d2, G2, S2, r2, h2⟩ => ?_⟩
  obtain ⟨d3, e3, q3⟩ := h2.retE
  cases e3
  refine q3 _ F2 H2 (GoC.refl S2.fh) S2 ⟨by simp [r2.1], fun i v' d' hi h1 h2 => ?_, fun i hi => ?_⟩
  · cases i with
    | zero => exact (hi rfl).elim
    | succ i => exact r2.2.1 i v' d' (by simp) (by simpa using h1) (by simpa using h2)
  · cases hi
    exact ⟨q, hq1, rfl⟩
theorem WL.strong {α β : Type} {R : Hp → Hp → Hp → β → α → Prop} {m : Mo α} {P : α → Prop} {F : Hp} {B : AS} {n : Int} {ds : DS} {σ : L2.St} {H : Hp} {Q : β → Hp → Prop} (hP : ∀ n ds d n', m n ds = some (.ok d, n') → P d) (h : WL C wx (fun H F' H' v d => R H F' H' v d ∧ P d) m F B n ds σ H Q) : WL C wx R m F B n ds σ H Q := by
  unfold WL at h ⊢
  cases e : m n ds with
  | none => rw [e] at h; exact h
  | some p =>
    rw [e] at h
    obtain ⟨o, n'⟩ := p
    cases o with
    | ok d => exact fun v F' H' g S r => h v F' H' g S ⟨r, hP _ _ _ _ e⟩
    | ex c fs => exact h
def mCall (fm : FM) (ms : Mo (List D)) : M := mb ms fun ds => fun n _ => fm n ds
theorem spM_of {fm : FM} {ci : Option Nat} {np kr : Nat} {F : Hp} {B : AS} {n : Int} {ds : DS} {σ : L2.St} {H : Hp} {vs : List V} {as : List D} {Q : VK} (hp : ci = none → ∃ f, fm = pureF f) (S : Sim C F B σ H n ds) (r : RAc C g ci H F H vs as) (hl : as.length = np)
    {RR : Hp → Hp → Hp → V → D → Prop} (hR : ∀ d v F' H', GoC C.q F H F' H' → (∃ A, Rp C.K F' H' kr v d A ∧ Fr F' H H' A) → g = .fz → RR H F' H' v d)
    (hRb : ∀ d v F2 H', g = .bo → GoC C.q F H F H' → (∃ A, Rp C.K F2 H' kr v d A) → RR H F H' v d)
    (w : WL C wx RR (fun n _ => fm n as) F B n ds σ H Q) : spM C.K ci np kr fm vs H Q (WE wx σ) := by
  have hq : ∀ i, ci = some i → ∃ a, C.q = some a ∧ vs[i]? = some (.ref a) ∧ H a = some (.lst [.int n]) ∧ rg C.q g F H a = none := fun i hi => by
    obtain ⟨a, h1, h2⟩ := r.2.2 i hi
    obtain ⟨h3, h4⟩ := S.cell a h1
    refine ⟨a, h1, h2, h4, ?_⟩
    cases g with
    | fz => exact (S.bok a h3).1
    | bo => show (if C.q = some a then none else H a) = none; rw [if_pos h1]
  refine ⟨r.1.trans hl, rg C.q g F H, (qOf ci C.q), n, as, rg_same S.fh, fun h => by rw [h]; rfl, fun i hi => by
    obtain ⟨a, h1, h2⟩ := hq i hi
    refine ⟨a, ?_, h2⟩
    rw [hi]; exact h1, r.1, r.2.1, ?_⟩
  unfold WL at w
  -- the heap's step, seen from here
  have step : ∀ F' H' n', GoC (qOf ci C.q) (rg C.q g F H) H F' H' → (∀ a, (qOf ci C.q) = some a → H' a = some (.lst [.int n'])) → (ci = none → n' = n) →
      ∃ F1, GoC C.q F H F1 H' ∧ Sim C F1 B σ H' n' ds ∧ (g = .fz → F1 = F') ∧ (g = .bo → F1 = F) := fun F' H' n' G hc hn => by
    have hcell : ∀ a, C.q = some a → H' a = some (.lst [.int n']) := fun a ha => by
      cases ci with
      | none =>
        rw [hn rfl]
        exact G.go.hh a _ (S.cell a ha).2 (by simp [qOf])
      | some i => exact hc a ha
    cases g with
    | fz =>
      have G' : GoC C.q F H F' H' := by
        cases ci with
        | none => exact GoC.of0 G
        | some i => exact G
      exact ⟨F', G', S.go G' hcell, fun _ => rfl, fun h => by cases h⟩
    | bo =>
      have hne : ∀ a o, F a = some o → C.q ≠ some a := fun a o e z => by
        have := (S.bok a (S.cell a z).1).1
        rw [this] at e; cases e
      have G' : GoC C.q F H F H' := ⟨⟨Same.refl _, fun a o e => G.go.hh a o (S.fh a o e) (by
          cases ci with
          | none => simp [qOf]
          | some i => exact hne a o e), fun a o e z => G.go.hh a o e (by
          cases ci with
          | none => simp [qOf]
          | some i => exact z), G.go.ht, fun a o n _ => n⟩, G.dm⟩
      exact ⟨F, G', S.go G' hcell, (fun h => by cases h), fun _ => rfl⟩
  have hn : ∀ o n', fm n as = some (o, n') → ci = none → n' = n := fun o n' e hi => by
    obtain ⟨f, hf⟩ := hp hi
    rw [hf] at e
    unfold pureF at e
    cases hfa : f as with
    | none => rw [hfa] at e; cases e
    | some oo => rw [hfa] at e; cases e; rfl
  cases e : fm n as with
  | none => simp only [e] at w
  | some p =>
    obtain ⟨o, n'⟩ := p
    simp only [e] at w
    cases o with
    | ok d =>
      rintro v F' H' G hc ⟨A, rr, ff⟩
      obtain ⟨F1, G1, S1, e1, e2⟩ := step F' H' n' G hc (hn _ _ e)
      refine w v F1 H' G1 S1 ?_
      cases hg : g with
      | fz => have z := e1 hg; subst z; exact hR d v F1 H' G1 ⟨A, rr, ff⟩ hg
      | bo => have z := e2 hg; subst z; exact hRb d v F' H' hg G1 ⟨A, rr⟩
    | ex c fs =>
      intro F' H' od G hc hx
      obtain ⟨F1, G1, S1, _, _⟩ := step F' H' n' G hc (hn _ _ e)
      exact w F1 H' od G1 S1 hx
section
variable {kk : Nat} {f : Addr} {fd : FuncData} {ps : List Str} {fm : FM} {ci : Option Nat} {np kr : Nat}
/-- f(..): the things stand | they are read now, and what it tells is flat -/
theorem ve_call (F : FnOk X.prog X.w X.K X.mg X.base (L2.CX X.prog X.w) kk f fd ps (spM C.K ci np kr fm)) (hp : ci = none → ∃ f, fm = pureF f) (hr : Room kk X.A) (hm : X.mg x = some (.ref f)) (hk : PySem.W.keepIn X.K (.ref f) = true) (hb : Binds X.K fd ps []) (tk : Takes X wx)
    (ha : PA X (e :: es) (WAc C wx .fz ci ms)) (hlen : ∀ n ds d n', ms n ds = some (.ok d, n') → d.length = np) (hg : Gl X x := by rfl) (hdb : (x == ("__debug__" : Str)) = false := by decide) (he : starEach (e :: es) X.env = (false, eval e X.env) :: starEach es X.env := by rfl) (hpl : (backTo pos (starEach es X.env)).any (·.1) = false := by rfl) :
    PE X (.Call (.Name x p) (e :: es) [] pos) (W C wx .fz kr (mCall fm ms)) := by
  refine (pe_callS F hr hg hm hk hb (fun σ => passAt tk σ) ha hdb he hpl).wk fun σ H Q w => ?_
  obtain ⟨F, B, n, ds, S, h⟩ := w
  refine ⟨F, B, n, ds, S, WL.strong hlen ((h.bind (R := fun H F' H' vs as => RAc C .fz ci H F' H' vs as ∧ as.length = np) fun F1 H1 F2 H2 v d G r => r.tr G).mono fun vs H1 ⟨F2, n2, d2, G2, S2, ⟨r2, hl⟩, h2⟩ => ?_)⟩
  exact spM_of (RR := RV C .fz kr) hp S2 r2 hl (fun d v F' H' G r _ => r) (fun _ _ _ _ h => by cases h) h2
theorem ve_callb (F : FnOk X.prog X.w X.K X.mg X.base (L2.CX X.prog X.w) kk f fd ps (spM C.K ci np kr fm)) (hp : ci = none → ∃ f, fm = pureF f) (hr : Room kk X.A) (hm : X.mg x = some (.ref f)) (hk : PySem.W.keepIn X.K (.ref f) = true) (hb : Binds X.K fd ps []) (tk : Takes X wx)
    (ha : PA X (e :: es) (WAc C wx .bo ci ms)) (hlen : ∀ n ds d n', ms n ds = some (.ok d, n') → d.length = np) (hg : Gl X x := by rfl) (hdb : (x == ("__debug__" : Str)) = false := by decide) (he : starEach (e :: es) X.env = (false, eval e X.env) :: starEach es X.env := by rfl) (hpl : (backTo pos (starEach es X.env)).any (·.1) = false := by rfl) :
    PE X (.Call (.Name x p) (e :: es) [] pos) (W C wx g k (mFlat (mCall fm ms))) := by
  refine (pe_callS F hr hg hm hk hb (fun σ => passAt tk σ) ha hdb he hpl).wk fun σ H Q w => ?_
  obtain ⟨F, B, n, ds, S, h⟩ := w
  have hb := h.bind (R := fun H F' H' v d => ∃ G' A, Rp C.K G' H' kr v d A) fun F1 H1 F2 H2 v d G r => r.tr G
  refine ⟨F, B, n, ds, S, WL.strong hlen ((hb.bind (R := fun H F' H' vs as => RAc C .bo ci H F' H' vs as ∧ as.length = np) fun F1 H1 F2 H2 v d G r => r).mono fun vs H1 ⟨F2, n2, d2, G2, S2, ⟨r2, hl⟩, h2⟩ => ?_)⟩
  refine spM_of (RR := fun H F' H' v d => ∃ G' A, Rp C.K G' H' kr v d A) hp S2 r2 hl (fun d v F' H' G r h => by cases h) (fun d v F2 H' _ G ⟨A, r⟩ => ⟨F2, A, r⟩) (WL.mono h2 fun v H' ⟨F3, n3, d3, G3, S3, ⟨G', A, r3⟩, h3⟩ => ?_)
  obtain ⟨d4, e4, q⟩ := h3.retE
  by_cases hf : flat d3 = true
  · rw [if_pos hf] at e4
    cases e4
    exact q v F3 H' (GoC.refl S3.fh) S3 ⟨fun _ => False, r3.flat_any hf _ _ _, Fr.no⟩
  · rw [if_neg hf] at e4; cases e4
end
end
end GW

namespace GW
open PySem L2
def LenM (ms : Mo (List D)) (k : Nat) : Prop := ∀ n ds d n', ms n ds = some (.ok d, n') → d.length = k
theorem LenM.nil : LenM (ret (some [])) 0 := fun n ds d n' h => by cases h; rfl
theorem LenM.cons {m : M} {ms : Mo (List D)} {k : Nat} (h : LenM ms k) : LenM (mCons m ms) (k + 1) := fun n ds d n' e => by
  unfold mCons mb at e
  split at e <;> try cases e
  dsimp only at e
  split at e <;> try cases e
  rename_i e2
  rw [List.length_cons, h _ _ _ _ e2]

/-! ### statements -/
inductive Fl where
  | nx | bk | ct | rt (d : D) | ex (C : Addr) (fs : List (Str × Int))
abbrev MS := Int → DS → Option (Fl × Int × DS)
/-- what a statement does to the heap -/
structure GoS (B : AS) (F H : Hp) (B' : AS) (F' H' : Hp) : Prop where
  ff : Same F F'
  fh : Same F' H'
  hh : ∀ a o, H a = some o → ¬ B a → H' a = some o
  ht : ∀ a o, H a = some o → Mk o = false → H' a = some o
  nf : ∀ a o, F a = none → H a = some o → ¬ B a → F' a = none
  bb : ∀ a, B' a → B a ∨ H a = none
  dm : ∀ a o, H a = some o → ∃ o', H' a = some o'
section
variable {B B1 B2 : AS} {F H F1 H1 F2 H2 : Hp}
theorem GoS.refl (h : Same F H) : GoS B F H B F H := ⟨Same.refl _, h, fun _ _ e _ => e, fun _ _ e _ => e, fun _ _ e _ _ => e, fun _ h => .inl h, fun _ o e => ⟨o, e⟩⟩
theorem GoS.trans (a : GoS B F H B1 F1 H1) (b : GoS B1 F1 H1 B2 F2 H2) : GoS B F H B2 F2 H2 where
  ff := a.ff.trans b.ff
  fh := b.fh
  hh := fun x o e n => b.hh x o (a.hh x o e n) fun z => by
    rcases a.bb x z with z | z
    · exact n z
    · rw [e] at z; cases z
  ht := fun x o e n => b.ht x o (a.ht x o e n) n
  nf := fun x o n e z => by
    have e1 := a.hh x o e z
    exact b.nf x o (a.nf x o n e z) e1 fun z' => by
      rcases a.bb x z' with q | q
      · exact z q
      · rw [e] at q; cases q
  bb := fun x z => by
    rcases b.bb x z with z | z
    · exact a.bb x z
    · right
      exact none_some a.dm z
  dm := fun x o e => by
    obtain ⟨o', e'⟩ := a.dm x o e
    exact b.dm x o' e'
theorem GoC.toS {q : Option Addr} (g : GoC q F H F1 H1) (hq : ∀ a, q = some a → B a) : GoS B F H B F1 H1 :=
  ⟨g.go.ff, g.go.fh, fun a o e n => g.go.hh a o e fun z => n (hq a z), g.go.ht, fun a o n e _ => g.go.nf a o n e, fun _ h => .inl h, g.dm⟩
end
theorem Sim.qB {C : Ctx} {F H : Hp} {B : AS} {σ : L2.St} {n : Int} {ds : DS} (S : Sim C F B σ H n ds) : ∀ a, C.q = some a → B a := fun a h => (S.cell a h).1

/-- what is told at a return: the thing, the cell -/
def RtP (C : Ctx) (kr : Nat) (B : AS) (F H : Hp) (n' : Int) (d : D) (Q : VK) : Prop :=
  ∀ v B' F' H' A, GoS B F H B' F' H' → (∀ q, C.q = some q → H' q = some (.lst [.int n']) ∧ F' q = none) → Rp C.K F' H' kr v d A → (∀ a, A a → (B a ∨ H a = none) ∧ F' a = none ∧ C.q ≠ some a ∧ ∃ o, H' a = some o ∧ Mk o = true) → Q v H'
def WSL (C : Ctx) (wx : WX) (kr : Nat) (ms : MS) (F : Hp) (B : AS) (n : Int) (ds : DS) (H : Hp) (E : Ends) : Prop :=
  match ms n ds with
  | none => False
  | some (.nx, n', ds') => ∀ σ' F' B' H', GoS B F H B' F' H' → Sim C F' B' σ' H' n' ds' → E.nx σ' H'
  | some (.bk, n', ds') => ∀ σ' F' B' H', GoS B F H B' F' H' → Sim C F' B' σ' H' n' ds' → E.bk σ' H'
  | some (.ct, n', ds') => ∀ σ' F' B' H', GoS B F H B' F' H' → Sim C F' B' σ' H' n' ds' → E.ct σ' H'
  | some (.rt d, n', _) => RtP C kr B F H n' d E.rt
  | some (.ex c fs, n', ds') => ∀ σ' F' B' H' od, GoS B F H B' F' H' → Sim C F' B' σ' H' n' ds' → ExR H' od fs → wx (.ref c) od σ' H'
def WS (C : Ctx) (wx : WX) (kr : Nat) (ms : MS) : TS := fun E σ H => ∃ F B n ds, Sim C F B σ H n ds ∧ WSL C wx kr ms F B n ds H E

def sNx : MS := fun n ds => some (.nx, n, ds)
def sSeq (a b : MS) : MS := fun n ds => match a n ds with
  | some (.nx, n1, ds1) => b n1 ds1
  | r => r
def sNone : MS := fun _ _ => none
section
variable {X : Cx} {C : Ctx} {wx : WX} {kr : Nat} {st : Stmt} {sts : List Stmt} {ma mc : MS} {pos : Pos}
theorem RtP.tr {B B1 : AS} {F H F1 H1 : Hp} {n' : Int} {d : D} {Q : VK} (G : GoS B F H B1 F1 H1) (h : RtP C kr B F H n' d Q) : RtP C kr B1 F1 H1 n' d Q := fun v B' F' H' A G2 hc r f =>
  h v B' F' H' A (G.trans G2) hc r fun a ha => by
    obtain ⟨z, z2⟩ := f a ha
    refine ⟨?_, z2⟩
    rcases z with z | z
    · exact G.bb a z
    · right; exact none_some G.dm z
/-- from a later state on -/
theorem WSL.tr {B B1 : AS} {F H F1 H1 : Hp} {n n1 : Int} {ds ds1 : DS} {E : Ends} {m m1 : MS} (G : GoS B F H B1 F1 H1) (e : m n ds = m1 n1 ds1) (h : WSL C wx kr m F B n ds H E) : WSL C wx kr m1 F1 B1 n1 ds1 H1 E := by
  unfold WSL at h ⊢
  rw [← e]
  cases e2 : m n ds with
  | none => rw [e2] at h; exact h
  | some p =>
    rw [e2] at h
    obtain ⟨fl, n', ds'⟩ := p
    cases fl with
    | nx => exact fun σ' F' B' H' G2 S => h σ' F' B' H' (G.trans G2) S
    | bk => exact fun σ' F' B' H' G2 S => h σ' F' B' H' (G.trans G2) S
    | ct => exact fun σ' F' B' H' G2 S => h σ' F' B' H' (G.trans G2) S
    | rt d => exact RtP.tr G h
    | ex c fs => exact fun σ' F' B' H' od G2 S x => h σ' F' B' H' od (G.trans G2) S x
theorem ws_nil : PSs X [] (WS C wx kr sNx) := pss_nil.wk fun E σ H w => by
  obtain ⟨F, B, n, ds, S, h⟩ := w
  exact h σ F B H (GoS.refl S.fh) S
theorem wsl_seq {F H : Hp} {B : AS} {n : Int} {ds : DS} {E : Ends} (h : WSL C wx kr (sSeq ma mc) F B n ds H E) : WSL C wx kr ma F B n ds H { E with nx := WS C wx kr mc E } := by
  have h0 := h
  unfold WSL at h ⊢
  cases e : ma n ds with
  | none => simp only [sSeq, e] at h
  | some p =>
    obtain ⟨fl, n', ds'⟩ := p
    cases fl with
    | nx =>
      intro σ' F' B' H' G S
      exact ⟨F', B', n', ds', S, WSL.tr G (by simp only [sSeq, e]) h0⟩
    | bk => simp only [sSeq, e] at h; exact h
    | ct => simp only [sSeq, e] at h; exact h
    | rt d => simp only [sSeq, e] at h; exact h
    | ex c fs => simp only [sSeq, e] at h; exact h
theorem ws_cons (h1 : PS X st (WS C wx kr ma)) (h2 : PSs X sts (WS C wx kr mc)) : PSs X (st :: sts) (WS C wx kr (sSeq ma mc)) := (pss_cons h1 h2).wk fun E σ H w => by
  obtain ⟨F, B, n, ds, S, h⟩ := w
  exact ⟨F, B, n, ds, S, wsl_seq h⟩
theorem ws_one (h1 : PS X st (WS C wx kr ma)) : PSs X [st] (WS C wx kr ma) := pss_one h1
theorem ws_pass : PS X (.Pass pos) (WS C wx kr sNx) := ps_pass.wk fun E σ H w => by
  obtain ⟨F, B, n, ds, S, h⟩ := w
  exact h σ F B H (GoS.refl S.fh) S
def sBk : MS := fun n ds => some (.bk, n, ds)
def sCt : MS := fun n ds => some (.ct, n, ds)
theorem ws_break : PS X (.Break pos) (WS C wx kr sBk) := ps_break.wk fun E σ H w => by
  obtain ⟨F, B, n, ds, S, h⟩ := w
  exact h σ F B H (GoS.refl S.fh) S
theorem ws_cont : PS X (.Continue pos) (WS C wx kr sCt) := ps_continue.wk fun E σ H w => by
  obtain ⟨F, B, n, ds, S, h⟩ := w
  exact h σ F B H (GoS.refl S.fh) S
theorem ws_never : PS X st (WS C wx kr sNone) := ps_never.wk fun E σ H w => by
  obtain ⟨F, B, n, ds, S, h⟩ := w
  exact h
theorem wss_never : PSs X sts (WS C wx kr sNone) := pss_never.wk fun E σ H w => by
  obtain ⟨F, B, n, ds, S, h⟩ := w
  exact h
/-- an expression ahead of a statement's own doing -/
def sE {α : Type} (m : Mo α) (f : α → MS) : MS := fun n ds => match m n ds with
  | none => none
  | some (.ex C fs, n1) => some (.ex C fs, n1, ds)
  | some (.ok a, n1) => f a n1 ds
theorem wsl_e0 {α β : Type} {R : Hp → Hp → Hp → β → α → Prop} {m : Mo α} {f : α → MS} {F H F0 H0 : Hp} {B B0 : AS} {n : Int} {ds : DS} {σ : L2.St} {E : Ends} (Gr : GoS B0 F0 H0 B F H) (S : Sim C F B σ H n ds) (h : WSL C wx kr (sE m f) F0 B0 n ds H0 E) :
    WL C wx R m F B n ds σ H fun v H1 => ∃ F1 n1 d, GoC C.q F H F1 H1 ∧ Sim C F1 B σ H1 n1 ds ∧ R H F1 H1 v d ∧ WSL C wx kr (f d) F0 B0 n1 ds H0 E := by
  unfold WSL at h
  unfold WL
  cases e : m n ds with
  | none => simp only [sE, e] at h
  | some p =>
    obtain ⟨o, n'⟩ := p
    cases o with
    | ex c fs =>
      simp only [sE, e] at h
      exact fun F' H' od G S' x => h σ F' B H' od (Gr.trans (G.toS S.qB)) S' x
    | ok d =>
      intro v F' H' G S' r
      simp only [sE, e] at h
      exact ⟨F', n', d, G, S', r, h⟩
theorem wsl_e {α β : Type} {R : Hp → Hp → Hp → β → α → Prop} {m : Mo α} {f : α → MS} {F H : Hp} {B : AS} {n : Int} {ds : DS} {σ : L2.St} {E : Ends} (S : Sim C F B σ H n ds) (h : WSL C wx kr (sE m f) F B n ds H E) :
    WL C wx R m F B n ds σ H fun v H1 => ∃ F1 n1 d, GoC C.q F H F1 H1 ∧ Sim C F1 B σ H1 n1 ds ∧ R H F1 H1 v d ∧ WSL C wx kr (f d) F B n1 ds H E := wsl_e0 (GoS.refl S.fh) S h
/-- if -/
def sIf (t : Mo Bool) (a b : MS) : MS := sE t fun c => match c with | true => a | false => b
theorem ws_if {c : Expr} {sa sb : List Stmt} {t : Mo Bool} (hc : PT X c (WT C wx t)) (ha : PSs X sa (WS C wx kr ma)) (hb : PSs X sb (WS C wx kr mc)) : PS X (.If c sa sb pos) (WS C wx kr (sIf t ma mc)) := (ps_if hc ha hb).wk fun E σ H w => by
  obtain ⟨F, B, n, ds, S, h⟩ := w
  refine ⟨F, B, n, ds, S, (wsl_e (R := RT) S h).mono fun b H1 ⟨F1, n1, d, G1, S1, r1, h1⟩ => ?_⟩
  have r1 : b = d := r1
  subst r1
  cases b with
  | true => rw [if_pos rfl]; exact ⟨F1, B, n1, ds, S1, h1.tr (G1.toS S.qB) rfl⟩
  | false => rw [if_neg Bool.false_ne_true]; exact ⟨F1, B, n1, ds, S1, h1.tr (G1.toS S.qB) rfl⟩
/-! ### a name is stored -/
theorem Sim.set {F H0 H : Hp} {B : AS} {σ : L2.St} {n : Int} {ds : DS} {i : Nat} {v : V} {d : D} {A : AS} (S : Sim C F B σ H n ds) (r : Rp C.K F H (C.T i) v d A) (f : ∀ a, A a → ¬ B a ∧ F a = none ∧ ∃ o, H a = some o ∧ Mk o = true) (hp : C.pn i = none) (hq : ∀ a, A a → C.q ≠ some a) :
    Sim C F (fun a => B a ∨ A a) (σ.set i (some v)) H n (ds.set i (some d)) where
  fh := S.fh
  bok := fun a ha => by
    rcases ha with h | h
    · exact S.bok a h
    · exact (f a h).2
  cell := fun q h => ⟨.inl (S.cell q h).1, (S.cell q h).2⟩
  pin := fun j w h => by
    have hj : i ≠ j := fun z => by subst z; rw [hp] at h; cases h
    rw [List.getElem?_set_ne hj]
    exact S.pin j w h
  len := by rw [List.length_set, List.length_set, S.len]
  rep := by
    obtain ⟨A0, h1, h2, h3⟩ := S.rep
    classical
    refine ⟨fun j => if j = i then A else A0 j, fun j d' e => ?_, fun j a ha => ?_, fun j j' a ha ha' => ?_⟩
    · by_cases hj : j = i
      · subst hj
        have hl : j < ds.length := by
          have := (List.getElem?_eq_some_iff.mp e).1
          rwa [List.length_set] at this
        rw [List.getElem?_set_self hl] at e
        cases e
        refine ⟨v, List.getElem?_set_self (by rw [S.len]; exact hl), ?_⟩
        simp only [if_true]
        exact r
      · rw [List.getElem?_set_ne (Ne.symm hj)] at e
        obtain ⟨w, e1, r1⟩ := h1 j d' e
        refine ⟨w, by rw [List.getElem?_set_ne (Ne.symm hj)]; exact e1, ?_⟩
        simp only [if_neg hj]
        exact r1
    · by_cases hj : j = i
      · simp only [if_pos hj] at ha
        exact ⟨.inr ha, hq a ha⟩
      · simp only [if_neg hj] at ha
        exact ⟨.inl (h2 j a ha).1, (h2 j a ha).2⟩
    · by_cases hj : j = i <;> by_cases hj' : j' = i
      · rw [hj, hj']
      · simp only [if_pos hj] at ha
        simp only [if_neg hj'] at ha'
        exact ((f a ha).1 (h2 j' a ha').1).elim
      · simp only [if_neg hj] at ha
        simp only [if_pos hj'] at ha'
        exact ((f a ha').1 (h2 j a ha).1).elim
      · simp only [if_neg hj] at ha
        simp only [if_neg hj'] at ha'
        exact h3 j j' a ha ha'
theorem Sim.set0 {F H : Hp} {B : AS} {σ : L2.St} {n : Int} {ds : DS} {i : Nat} {v : V} {d : D} (S : Sim C F B σ H n ds) {A : AS} (r : Rp C.K F H 0 v d A) (hT : C.T i = 0) (hp : C.pn i = none) :
    Sim C F B (σ.set i (some v)) H n (ds.set i (some d)) := by
  have S2 := S.set (H0 := H) (i := i) (A := fun _ => False) (by rw [hT]; exact r.z) (fun _ h => h.elim) hp fun _ h => h.elim
  exact ⟨S2.fh, fun a ha => S2.bok a (.inl ha), fun q h => ⟨(S.cell q h).1, (S.cell q h).2⟩, S2.pin, S2.len, by
    obtain ⟨A0, h1, h2, h3⟩ := S2.rep
    exact ⟨A0, h1, fun i a ha => ⟨(h2 i a ha).1.elim id fun z => z.elim, (h2 i a ha).2⟩, h3⟩⟩
def sSet (i : Nat) (m : M) : MS := sE m fun d n ds => some (.nx, n, ds.set i (some d))
theorem fresh_ok {F H F1 H1 : Hp} {B : AS} {σ : L2.St} {n : Int} {ds : DS} {A : AS} (S : Sim C F B σ H n ds) (f : Fr F1 H H1 A) : (∀ a, A a → ¬ B a ∧ F1 a = none ∧ ∃ o, H1 a = some o ∧ Mk o = true) ∧ ∀ a, A a → C.q ≠ some a :=
  ⟨fun a ha => ⟨fun hb => by
    obtain ⟨_, o, h2, _⟩ := S.bok a hb
    have q := (f a ha).1
    rw [h2] at q
    exact absurd q (by simp), (f a ha).2⟩, fun a ha z => S.nq z (f a ha).1⟩
theorem goS_new {F H F1 H1 : Hp} {B : AS} {σ : L2.St} {n : Int} {ds : DS} {A : AS} (S : Sim C F B σ H n ds) (G : GoC C.q F H F1 H1) (f : Fr F1 H H1 A) : GoS B F H (fun a => B a ∨ A a) F1 H1 :=
  have g := G.toS (B := B) S.qB
  ⟨g.ff, g.fh, g.hh, g.ht, g.nf, fun a ha => ha.elim .inl fun z => .inr (f a z).1, g.dm⟩
theorem ws_set {i : Nat} {x : Str} {e : Expr} {p' : Pos} {m : M} {k : Nat} (he : PE X e (W C wx .fz k m)) (hT : C.T i = k) (hp : C.pn i = none) (hN : X.N.Nodup) (hi : X.N[i]? = some x := by rfl) (hx : Loc X.env.scope x := by first | exact Or.inl rfl | exact Or.inr rfl) (hs : swapsWith e (some (.Name x p')) pos.line X.env = pure false := by rfl) (hf : X.fn x = true ∨ X.env.scope.names.lookup x = some .local := by first | exact .inl rfl | exact .inr rfl | assumption) :
    PS X (.Assign [.Name x p'] e pos) (WS C wx kr (sSet i m)) := (ps_set hN hi hx he hs hf).wk fun E σ H w => by
  obtain ⟨F, B, n, ds, S, h⟩ := w
  refine ⟨F, B, n, ds, S, (wsl_e (R := RV C .fz k) S h).mono fun v H1 ⟨F1, n1, d, G1, S1, ⟨A, r, f⟩, h1⟩ => ?_⟩
  obtain ⟨f1, f2⟩ := fresh_ok S f
  have S2 := S1.set (H0 := H) (by rw [hT]; exact r) f1 hp f2
  exact h1 _ F1 _ H1 (goS_new S G1 f) S2

/-! ### name op= e, a value dropped, return -/
def sAug (i : Nat) (m : M) (o : D → D → Option D) : MS := fun n ds => match ds[i]? with
  | some (some d0) => sE m (fun d n ds => match o d0 d with
    | some d2 => some (.nx, n, ds.set i (some d2))
    | none => none) n ds
  | _ => none
theorem ws_aug {i : Nat} {x : Str} {e : Expr} {op : Operator} {p' : Pos} {m : M} {r : R2} {o : D → D → Option D} (hr : OpR X (inplaceOp op) r) (ho : OpS C.K r o) (he : PE X e (W C wx .bo 0 m)) (hT : C.T i = 0) (hp : C.pn i = none) (hN : X.N.Nodup) (hi : X.N[i]? = some x := by rfl) (hx : Loc X.env.scope x := by first | exact Or.inl rfl | exact Or.inr rfl)
    (hf : X.fn x = true ∨ X.env.scope.names.lookup x = some .local := by first | exact .inl rfl | exact .inr rfl | assumption) : PS X (.AugAssign (.Name x p') op e pos) (WS C wx kr (sAug i m o)) := (ps_aug hN hi hx he (ti := r) (fun pins s σ H x y v u Q I rx ry h => hr pins s σ H x y v u Q I rx ry h) hf).wk fun E σ H w => by
  obtain ⟨F, B, n, ds, S, h⟩ := w
  cases e0 : ds[i]? with
  | none => unfold WSL sAug at h; simp only [e0] at h
  | some x =>
    cases x with
    | none => unfold WSL sAug at h; simp only [e0] at h
    | some d0 =>
      have h' : WSL C wx kr (sE m (fun d n ds => match o d0 d with
        | some d2 => some (.nx, n, ds.set i (some d2))
        | none => none)) F B n ds H E := h.tr (GoS.refl S.fh) (by simp only [sAug, e0])
      obtain ⟨A0, h1, h2, h3⟩ := S.rep
      obtain ⟨v0, hv0, r0⟩ := h1 i d0 e0
      refine ⟨v0, hv0, F, B, n, ds, S, (wsl_e (R := RV C .bo 0) S h').mono fun v H1 ⟨F1, n1, d, G1, S1, ⟨A, r1, f⟩, h4⟩ => ?_⟩
      cases ho2 : o d0 d with
      | none => unfold WSL at h4; simp only [ho2] at h4
      | some d2 =>
        unfold WSL at h4
        simp only [ho2] at h4
        rw [hT] at r0
        have r0' : Rp C.K (rg C.q .bo F1 H1) H1 0 v0 d0 (fun _ => False) := Rp.go0 (g := .bo) (Rp.any S r0 (A' := fun _ => False)) G1
        obtain ⟨w2, hw2, hr2⟩ := ho _ _ v0 v d0 d d2 _ _ (rg_same S1.fh) r0' r1 ho2
        exact hr2 _ (h4 _ F1 B H1 (G1.toS S.qB) (S1.set0 (A := fun _ => False) (Rp.of_sc hw2) hT hp))
def sDrop (m : M) : MS := sE m fun _ n ds => some (.nx, n, ds)
theorem ws_expr {e : Expr} {m : M} {g : Rg} {k : Nat} (he : PE X e (W C wx g k m)) (hs : swapsWith e none pos.line X.env = pure false := by rfl) : PS X (.Expr e pos) (WS C wx kr (sDrop m)) := (ps_expr he hs).wk fun E σ H w => by
  obtain ⟨F, B, n, ds, S, h⟩ := w
  refine ⟨F, B, n, ds, S, (wsl_e (R := RV C g k) S h).mono fun v H1 ⟨F1, n1, d, G1, S1, ⟨A, r1, f⟩, h4⟩ => ?_⟩
  exact h4 _ F1 B H1 (G1.toS S.qB) S1
/-- at a return all that is one's own is let stand -/
def Ctx.stand (C : Ctx) : Ctx := { C with T := fun _ => 0 }
theorem Sim.stand {F H : Hp} {B : AS} {σ : L2.St} {n : Int} {ds : DS} (S : Sim C F B σ H n ds) : ∃ F1, GoS B F H (fun a => C.q = some a) F1 H ∧ Sim C.stand F1 (fun a => C.q = some a) σ H n ds := by
  classical
  let F1 : Hp := fun a => if B a ∧ C.q ≠ some a then H a else F a
  have hA : ∀ a, B a → C.q ≠ some a → F1 a = H a := fun a h h' => if_pos ⟨h, h'⟩
  have hN : ∀ a, ¬ (B a ∧ C.q ≠ some a) → F1 a = F a := fun a h => if_neg h
  have ff : Same F F1 := fun a o e => by
    by_cases h : B a ∧ C.q ≠ some a
    · have q := (S.bok a h.1).1
      rw [q] at e; cases e
    · rw [hN a h]; exact e
  have fh : Same F1 H := fun a o e => by
    by_cases h : B a ∧ C.q ≠ some a
    · rw [hA a h.1 h.2] at e; exact e
    · rw [hN a h] at e; exact S.fh a o e
  refine ⟨F1, ⟨ff, fh, fun _ _ e _ => e, fun _ _ e _ => e, fun a o n e hb => ?_, fun a ha => .inl (S.cell a ha).1, fun _ o e => ⟨o, e⟩⟩, ⟨fh, fun a ha => ?_, fun q hq => ⟨hq, (S.cell q hq).2⟩, S.pin, S.len, ?_⟩⟩
  · rw [hN a fun z => hb z.1]; exact n
  · refine ⟨?_, (S.bok a (S.cell a ha).1).2⟩
    rw [hN a fun z => z.2 ha]
    exact (S.bok a (S.cell a ha).1).1
  · obtain ⟨A, h1, h2, h3⟩ := S.rep
    refine ⟨fun _ _ => False, fun i d e => ?_, fun _ _ h => h.elim, fun _ _ _ h => h.elim⟩
    obtain ⟨v, e1, r⟩ := h1 i d e
    exact ⟨v, e1, r.frz ff fun a o ha e => by rw [hA a (h2 i a ha).1 (h2 i a ha).2]; exact e⟩
def sRet (m : M) : MS := sE m fun d n ds => some (.rt d, n, ds)
theorem ws_ret {e : Expr} {m : M} (he : PE X e (W C.stand wx .fz kr m)) (hs : kr = kr := by rfl) : PS X (.Return (some e) pos) (WS C wx kr (sRet m)) := (ps_ret he).wk fun E σ H w => by
  obtain ⟨F, B, n, ds, S, h⟩ := w
  obtain ⟨F0, G0, S0⟩ := S.stand
  refine ⟨F0, fun a => C.q = some a, n, ds, S0, ?_⟩
  unfold WSL at h
  unfold WL
  cases e : m n ds with
  | none => simp only [sRet, sE, e] at h
  | some p =>
    obtain ⟨o, n'⟩ := p
    cases o with
    | ok d =>
      simp only [sRet, sE, e] at h
      rintro v F' H' G S' ⟨A, r, f⟩
      refine h v (fun a => C.q = some a) F' H' A (G0.trans (G.toS fun _ z => z)) (fun q hq => ⟨(S'.cell q hq).2, (S'.bok q hq).1⟩) r fun a ha => ?_
      exact ⟨.inr (f a ha).1, (f a ha).2.1, fun z => S.nq z (f a ha).1, (f a ha).2.2⟩
    | ex c fs =>
      simp only [sRet, sE, e] at h
      intro F' H' od G S' x
      have G1 : GoC C.q F H F H' := ⟨⟨Same.refl _, fun a o e => G.go.hh a o (S.fh a o e) fun z => by
        have q := (S.bok a (S.cell a z).1).1
        rw [q] at e; exact absurd e (by simp), G.go.hh, G.go.ht, fun a o n _ => n⟩, G.dm⟩
      exact h σ F B H' od (G1.toS S.qB) (S.go G1 fun q hq => (S'.cell q hq).2) x

theorem ws_retN : PS X (.Return none pos) (WS C wx kr (sRet (mC .non))) := ps_retN.wk fun E σ H w => by
  obtain ⟨F, B, n, ds, S, h⟩ := w
  exact h .non B F H (fun _ => False) (GoS.refl S.fh) (fun q hq => ⟨(S.cell q hq).2, (S.bok q (S.cell q hq).1).1⟩) .non fun _ h => h.elim
/-- return of a name whose thing is one's own -/
def sRetV (i : Nat) : MS := fun n ds => match ds[i]? with
  | some (some d) => some (.rt d, n, ds)
  | _ => none
theorem ws_retV {i : Nat} {e : Expr} (h : PE X e (tVar i)) (hT : C.T i = kr) : PS X (.Return (some e) pos) (WS C wx kr (sRetV i)) := (ps_ret h).wk fun E σ H w => by
  obtain ⟨F, B, n, ds, S, h⟩ := w
  unfold WSL sRetV at h
  cases e : ds[i]? with
  | none => simp only [e] at h
  | some x =>
    cases x with
    | none => simp only [e] at h
    | some d =>
      simp only [e] at h
      obtain ⟨A, h1, h2, h3⟩ := S.rep
      obtain ⟨v, hv, r⟩ := h1 i d e
      rw [hT] at r
      exact ⟨v, hv, h v B F H (A i) (GoS.refl S.fh) (fun q hq => ⟨(S.cell q hq).2, (S.bok q (S.cell q hq).1).1⟩) r fun a ha => ⟨.inl (h2 i a ha).1, (S.bok a (h2 i a ha).1).1, (h2 i a ha).2, (S.bok a (h2 i a ha).1).2⟩⟩

/-! ### targets -/
/-- a target: a name; names of a tuple -/
inductive Tg where
  | one (i : Nat) | tup (is : List Nat)
def bindL : List Nat → List D → DS → Option DS
  | [], [], s => some s
  | i :: is, d :: ds, s => bindL is ds (s.set i (some d))
  | _, _, _ => none
def Tg.bind : Tg → D → DS → Option DS
  | .one i, d, s => some (s.set i (some d))
  | .tup is, .tup ds, s => bindL is ds s
  | _, _, _ => none
def Tg.slots : Tg → List Nat
  | .one i => [i]
  | .tup is => is
/-- what a target's store leaves -/
def GT (C : Ctx) (tg : Tg) : TG := fun v σ H Q => ∃ F B n ds d ds', Sim C F B σ H n ds ∧ Rp C.K F H 0 v d (fun _ => False) ∧ tg.bind d ds = some ds' ∧
  ∀ σ', Sim C F B σ' H n ds' → σ'.length = σ.length → (∀ i, i ∉ tg.slots → σ'[i]? = σ[i]?) → Q σ' H
def GTs (C : Ctx) (is : List Nat) : TGs := fun vs σ H Q => ∃ F B n ds as ds', Sim C F B σ H n ds ∧ RpL C.K F H vs as ∧ bindL is as ds = some ds' ∧
  ∀ σ', Sim C F B σ' H n ds' → σ'.length = σ.length → (∀ i, i ∉ is → σ'[i]? = σ[i]?) → Q σ' H
def SlotOk (C : Ctx) (i : Nat) : Prop := C.T i = 0 ∧ C.pn i = none
theorem _root_.L2.PG.wk {e : Expr} {t t' : TG} (h : PG X e t) (w : ∀ v σ H Q, t' v σ H Q → t v σ H Q) : PG X e t' := ⟨fun pins s σ H v u Q I r q => h.run pins s σ H v u Q I r (w _ _ _ _ q)⟩
theorem _root_.L2.PGs.wk {es : List Expr} {t t' : TGs} (h : PGs X es t) (w : ∀ vs σ H Q, t' vs σ H Q → t vs σ H Q) : PGs X es t' := ⟨fun pins s σ H v u Q I r q => h.run pins s σ H v u Q I r (w _ _ _ _ q)⟩
theorem vg_name {i : Nat} {x : Str} {p : Pos} (hs : SlotOk C i) (hN : X.N.Nodup) (hi : X.N[i]? = some x := by rfl) (hx : Loc X.env.scope x := by first | exact Or.inl rfl | exact Or.inr rfl) (hf : X.fn x = true ∨ X.env.scope.names.lookup x = some .local := by first | exact .inl rfl | exact .inr rfl | assumption) : PG X (.Name x p) (GT C (.one i)) :=
  (pg_name hN hi hx hf).wk fun v σ H Q w => by
    obtain ⟨F, B, n, ds, d, ds', S, r, e, q⟩ := w
    cases e
    exact q _ (S.set0 r hs.1 hs.2) (List.length_set) fun j hj => List.getElem?_set_ne (fun z => hj (by simp [Tg.slots, z]))
theorem vgs_nil : PGs X [] (GTs C []) := pgs_nil.wk fun vs σ H Q w => by
  obtain ⟨F, B, n, ds, as, ds', S, r, e, q⟩ := w
  cases as with
  | nil =>
    cases e
    have : vs = [] := List.eq_nil_of_length_eq_zero r.1
    exact ⟨this, q σ S rfl fun _ _ => rfl⟩
  | cons a as => cases e
theorem vgs_cons {i : Nat} {is : List Nat} {x : Str} {p : Pos} {es : List Expr} (hs : SlotOk C i) (hN : X.N.Nodup) (h2 : PGs X es (GTs C is)) (hi : X.N[i]? = some x := by rfl) (hx : Loc X.env.scope x := by first | exact Or.inl rfl | exact Or.inr rfl) (hf : X.fn x = true ∨ X.env.scope.names.lookup x = some .local := by first | exact .inl rfl | exact .inr rfl | assumption) :
    PGs X (.Name x p :: es) (GTs C (i :: is)) := (pgs_cons (pg_name hN hi hx hf) h2).wk fun vs σ H Q w => by
  obtain ⟨F, B, n, ds, as, ds', S, r, e, q⟩ := w
  cases as with
  | nil => cases e
  | cons a as =>
    cases vs with
    | nil => cases r.1
    | cons v vs =>
      obtain ⟨r1, r2⟩ := r.tail
      refine ⟨v, vs, rfl, F, B, n, _, as, ds', S.set0 r1 hs.1 hs.2, r2, e, fun σ' S' hl hi' => q σ' S' (hl.trans List.length_set) fun j hj => ?_⟩
      rw [List.mem_cons, not_or] at hj
      rw [hi' j hj.2, List.getElem?_set_ne (Ne.symm hj.1)]
theorem bindL_len : ∀ {is : List Nat} {ds : List D} {s s' : DS}, bindL is ds s = some s' → is.length = ds.length
  | [], [], _, _, _ => rfl
  | i :: is, d :: ds, s, s', h => by
    rw [List.length_cons, List.length_cons, bindL_len (is := is) (ds := ds) h]
  | [], _ :: _, _, _, h => by cases h
  | _ :: _, [], _, _, h => by cases h
theorem vg_tup {es : List Expr} {k : Nat} {is : List Nat} {p : Pos} (hc : X.calm = true) (h : PGs X es (GTs C is)) (hn : (assignEach es X.env).length = is.length := by rfl) (hst : (assignEach es X.env).findIdx? (·.1) = none := by rfl) (hK : X.K = C.K := by rfl) : PG X (.Tuple es k p) (GT C (.tup is)) :=
  (pg_tup hc h hn hst).wk fun v σ H Q w => by
    obtain ⟨F, B, n, ds, d, ds', S, r, e, q⟩ := w
    cases d with
    | tup as =>
      have hl := bindL_len (show bindL is as ds = some ds' from e)
      cases r with
      | tup hh l c =>
        rw [hK]
        exact ⟨_, _, rfl, hh, l.trans hl.symm, F, B, n, ds, as, ds', S, ⟨l, c⟩, e, q⟩
    | _ => cases e
/-- target = e -/
def sAsg (tg : Tg) (m : M) : MS := sE m fun d n ds => match tg.bind d ds with
  | some ds' => some (.nx, n, ds')
  | none => none
theorem ws_asg {t e : Expr} {tg : Tg} {m : M} (he : PE X e (W C wx .fz 0 m)) (hg : PG X t (GT C tg)) (hs : swapsWithSole [t] e pos.line X.env = pure false := by rfl) (hw : swappedStores [t] e X.env = pure none := by rfl) (h1 : (assignEach [t] X.env).map (·.2) = [assign t X.env] := by rfl) : PS X (.Assign [t] e pos) (WS C wx kr (sAsg tg m)) := (ps_asg he hg hs hw h1).wk fun E σ H w => by
  obtain ⟨F, B, n, ds, S, h⟩ := w
  refine ⟨F, B, n, ds, S, (wsl_e (R := RV C .fz 0) S h).mono fun v H1 ⟨F1, n1, d, G1, S1, ⟨A, r1, f⟩, h4⟩ => ?_⟩
  cases e : tg.bind d ds with
  | none => unfold WSL at h4; simp only [e] at h4
  | some ds' =>
    unfold WSL at h4
    simp only [e] at h4
    exact ⟨F1, B, n1, ds, d, ds', S1, r1.z, e, fun σ' S' _ _ => h4 σ' F1 B H1 (G1.toS S.qB) S'⟩
/-- a, b = x, y -/
def sPar (i j : Nat) (ms : Mo (List D)) : MS := sE ms fun as n ds => match as with
  | [a, b] => some (.nx, n, (ds.set i (some a)).set j (some b))
  | _ => none
theorem ws_par {i j : Nat} {x y : Str} {a b : Expr} {px py pt : Pos} {kt k2 : Nat} {pt2 : Pos} {ms : Mo (List D)} (hi : SlotOk C i) (hj : SlotOk C j)
    (h : PS X (.Assign [.Tuple [.Name x px, .Name y py] kt pt] (.Tuple [a, b] k2 pt2) pos) (tPar i j (WA C wx .fz ms))) : PS X (.Assign [.Tuple [.Name x px, .Name y py] kt pt] (.Tuple [a, b] k2 pt2) pos) (WS C wx kr (sPar i j ms)) := h.wk fun E σ H w => by
  obtain ⟨F, B, n, ds, S, h⟩ := w
  refine ⟨F, B, n, ds, S, (wsl_e (R := RA C .fz) S h).mono fun vs H1 ⟨F1, n1, as, G1, S1, r1, h4⟩ => ?_⟩
  match as with
  | [d1, d2] =>
    obtain ⟨v, v', rfl, ra, rb⟩ := RpL.two r1
    exact ⟨v, v', rfl, h4 _ F1 B H1 (G1.toS S.qB) ((S1.set0 ra hi.1 hi.2).set0 rb hj.1 hj.2)⟩
  | [] => exact h4.elim
  | [_] => exact h4.elim
  | _ :: _ :: _ :: _ => exact h4.elim
end
end GW

namespace GW
open PySem L2

/-! ### what is walked -/
structure Later (F H F' H' : Hp) : Prop where
  ff : Same F F'
  fh : Same F' H'
  ht : ∀ a o, H a = some o → Mk o = false → H' a = some o
  dm : ∀ a o, H a = some o → ∃ o', H' a = some o'
theorem Later.refl {F H : Hp} (h : Same F H) : Later F H F H := ⟨Same.refl _, h, fun _ _ e _ => e, fun _ o e => ⟨o, e⟩⟩
theorem Later.trans {F H F1 H1 F2 H2 : Hp} (a : Later F H F1 H1) (b : Later F1 H1 F2 H2) : Later F H F2 H2 :=
  ⟨a.ff.trans b.ff, b.fh, fun x o e n => b.ht x o (a.ht x o e n) n, fun x o e => by
    obtain ⟨o', e'⟩ := a.dm x o e
    exact b.dm x o' e'⟩
theorem GoC.later {q : Option Addr} {F H F1 H1 : Hp} (g : GoC q F H F1 H1) : Later F H F1 H1 := ⟨g.go.ff, g.go.fh, g.go.ht, g.dm⟩
theorem GoS.later {B B1 : AS} {F H F1 H1 : Hp} (g : GoS B F H B1 F1 H1) : Later F H F1 H1 := ⟨g.ff, g.fh, g.ht, g.dm⟩
def Yld (K : PySem.W.Frag) (F H : Hp) (J : It) (ds : List D) : Prop := ∀ F' H', Later F H F' H' → ∀ i,
  (∀ d, ds[i]? = some d → J.go i H' ∧ ∀ x H'', J.yld i H' x H'' → (H'' = H' ∨ ∃ p vs, H' p = none ∧ H'' = upd H' p (.tup vs)) ∧ Rp K F' H'' 0 x d (fun _ => False)) ∧ (ds[i]? = none → J.stop i H')
abbrev WI (C : Ctx) (wx : WX) (m : Mo (List D)) : TI := WW C wx (fun _ F' H' J as => Yld C.K F' H' J as) m
theorem _root_.L2.PI.wk {X : Cx} {tg iter : Expr} {t t' : TI} (h : PI X tg iter t) (w : ∀ σ H Q, t' σ H Q → t σ H Q) : PI X tg iter t' := ⟨fun pins s σ H R I q => h.run pins s σ H R I (w _ _ _ q)⟩
section
variable {X : Cx} {C : Ctx} {wx : WX} {kr k : Nat} {e tg : Expr} {es : List Expr} {p pos : Pos} {m : M} {ms : Mo (List D)}
def mItL (m : M) : Mo (List D) := mb m fun d => ret (match d with | .lst ds => some ds | _ => none)
def mItT (m : M) : Mo (List D) := mb m fun d => ret (match d with | .tup ds => some ds | _ => none)
def signsD (x : Str) : List D := x.cps.toList.map fun c => .str ⟨#[c]⟩
def mItS (m : M) : Mo (List D) := mb m fun d => ret (match d with | .str x => some (signsD x) | _ => none)
theorem vi_list (he : PE X e (W C wx .fz 0 m)) (hK : X.K = C.K := by rfl) : PI X tg e (WI C wx (mItL m)) := (pi_list he).wk fun σ H Q w => by
  obtain ⟨F, B, n, ds, S, h⟩ := w
  refine ⟨F, B, n, ds, S, (h.bind fun F1 H1 F2 H2 v d G r => r).mono fun v H1 ⟨F1, n1, d, G1, S1, ⟨A, r1, f⟩, h1⟩ => ?_⟩
  obtain ⟨as, e, q⟩ := h1.retE
  cases r1 with
  | @lst A' a vs as' hh l c =>
    cases e
    rw [hK]
    refine ⟨a, rfl, ⟨vs, sqL_mono hh S1.fh⟩, q _ F1 H1 (GoC.refl S1.fh) S1 fun F' H' L i => ⟨fun d hd => ?_, fun hn => ?_⟩⟩
    · have hq : SqL C.K H' a vs := sqL_mono hh (L.ff.trans L.fh)
      have hv : vs[i]? = some (vs[i]'(by have := (List.getElem?_eq_some_iff.mp hd).1; omega)) := by
        have := (List.getElem?_eq_some_iff.mp hd).1
        simp [l, this]
      refine ⟨⟨vs, _, hq, hv⟩, fun x H'' y => ?_⟩
      obtain ⟨y1, y2⟩ := y
      subst y1
      have := y2 vs hq
      exact ⟨.inl rfl, (Rp.z (c i x d this hd)).mono L.ff L.ht fun _ _ h => h.elim⟩
    · refine ⟨vs, sqL_mono hh (L.ff.trans L.fh), ?_⟩
      rw [l]
      exact List.getElem?_eq_none_iff.mp hn
  | _ => cases e
theorem vi_tup (he : PE X e (W C wx .fz 0 m)) (hK : X.K = C.K := by rfl) : PI X tg e (WI C wx (mItT m)) := (pi_tup he).wk fun σ H Q w => by
  obtain ⟨F, B, n, ds, S, h⟩ := w
  refine ⟨F, B, n, ds, S, (h.bind fun F1 H1 F2 H2 v d G r => r).mono fun v H1 ⟨F1, n1, d, G1, S1, ⟨A, r1, f⟩, h1⟩ => ?_⟩
  obtain ⟨as, e, q⟩ := h1.retE
  cases r1 with
  | @tup k' A' a vs as' hh l c =>
    cases e
    rw [hK]
    refine ⟨a, rfl, ⟨vs, hh⟩, q _ F1 H1 (GoC.refl S1.fh) S1 fun F' H' L i => ⟨fun d hd => ?_, fun hn => ?_⟩⟩
    · have hq : SqT C.K H' a vs := sqT_mono hh L.ht
      have hv : vs[i]? = some (vs[i]'(by have := (List.getElem?_eq_some_iff.mp hd).1; omega)) := by
        have := (List.getElem?_eq_some_iff.mp hd).1
        simp [l, this]
      refine ⟨⟨vs, _, hq, hv⟩, fun x H'' y => ?_⟩
      obtain ⟨y1, y2⟩ := y
      subst y1
      have := y2 vs hq
      exact ⟨.inl rfl, (Rp.z (c i x d this hd)).mono L.ff L.ht fun _ _ h => h.elim⟩
    · refine ⟨vs, sqT_mono hh L.ht, ?_⟩
      rw [l]
      exact List.getElem?_eq_none_iff.mp hn
  | _ => cases e
theorem vi_str {g : Rg} (he : PE X e (W C wx g 0 m)) : PI X tg e (WI C wx (mItS m)) := (pi_str he).wk fun σ H Q w => by
  obtain ⟨F, B, n, ds, S, h⟩ := w
  refine ⟨F, B, n, ds, S, (h.bind fun F1 H1 F2 H2 v d G r => r).mono fun v H1 ⟨F1, n1, d, G1, S1, ⟨A, r1, f⟩, h1⟩ => ?_⟩
  obtain ⟨as, e, q⟩ := h1.retE
  cases r1 with
  | @str k' A' x =>
    cases e
    refine ⟨x, rfl, q _ F1 H1 (GoC.refl S1.fh) S1 fun F' H' L i => ⟨fun d hd => ?_, fun hn => ?_⟩⟩
    · unfold signsD at hd
      rw [List.getElem?_map] at hd
      cases hc : x.cps.toList[i]? with
      | none => rw [hc] at hd; cases hd
      | some cc =>
        rw [hc] at hd
        cases hd
        have hlt : i < x.cps.size := by
          have := (List.getElem?_eq_some_iff.mp hc).1
          simpa using this
        refine ⟨hlt, fun v H'' y => ?_⟩
        obtain ⟨y1, c2, y2, y3⟩ := y
        subst y1 y3
        have : c2 = cc := by
          have h3 : x.cps[i]? = some cc := by rw [← Array.getElem?_toList]; exact hc
          rw [h3] at y2; exact (Option.some.inj y2).symm
        subst this
        exact ⟨.inl rfl, .str⟩
    · unfold signsD at hn
      have h1 := List.getElem?_eq_none_iff.mp hn
      have h2 : x.cps.size ≤ i := by simpa using h1
      exact h2
  | _ => cases e
def rngD (lo : Int) (n : Nat) : List D := (List.range n).map fun (i : Nat) => .int (lo + (i : Int))
def r62 (i : Int) : Bool := decide (-4611686018427387904 ≤ i) && decide (i < 4611686018427387904)
def oRng : List D → Option (List D)
  | [.int j] => if r62 j = true then some (rngD 0 j.toNat) else none
  | [.int i, .int j] => if r62 i = true ∧ r62 j = true then some (rngD i (j - i).toNat) else none
  | _ => none
def mRng (ms : Mo (List D)) : Mo (List D) := mb ms fun ds => ret (oRng ds)
theorem yld_rng {F H : Hp} {lo : Int} {n : Nat} : Yld C.K F H (Itr lo n) (rngD lo n) := fun F' H' L i => by
  have hl : (rngD lo n).length = n := by unfold rngD; simp
  refine ⟨fun d hd => ?_, fun hn => ?_⟩
  · have hlt : i < n := by
      have := (List.getElem?_eq_some_iff.mp hd).1
      omega
    have he : d = .int (lo + (i : Int)) := by
      unfold rngD at hd
      rw [List.getElem?_map, List.getElem?_range hlt] at hd
      cases hd; rfl
    subst he
    refine ⟨hlt, fun x H'' y => ?_⟩
    obtain ⟨y1, y2⟩ := y
    subst y1 y2
    exact ⟨.inl rfl, .int⟩
  · have := List.getElem?_eq_none_iff.mp hn
    exact hl ▸ this
theorem r62_ok {i : Int} (h : r62 i = true) : -(2 ^ 62) ≤ i ∧ i < 2 ^ 62 := by
  unfold r62 at h
  rw [Bool.and_eq_true, decide_eq_true_eq, decide_eq_true_eq] at h
  omega
theorem vi_range1 {a : Expr} (hm : X.mg "range" = none) (ha : PA X [a] (WA C wx .bo ms)) (hg : Gl X "range" := by rfl) (hs : starEach [a] X.env = [(false, eval a X.env)] := by rfl) (hlen : LenM ms 1 := by exact LenM.cons LenM.nil) : PI X tg (.Call (.Name "range" p) [a] [] pos) (WI C wx (mRng ms)) := (pi_range1 hg hm ha hs).wk fun σ H Q w => by
  obtain ⟨F, B, n, ds, S, h⟩ := w
  refine ⟨F, B, n, ds, S, WL.strong hlen ((h.bind (R := fun H F' H' vs as => RA C .bo H F' H' vs as ∧ as.length = 1) fun F1 H1 F2 H2 v d G r => r).mono fun vs H1 ⟨F1, n1, as, G1, S1, ⟨r1, hl⟩, h1⟩ => ?_)⟩
  obtain ⟨is, e, q⟩ := h1.retE
  match as, hl with
  | [d], _ =>
    obtain ⟨v, rfl, r⟩ := RpL.one r1
    cases d with
    | int j =>
      simp only [oRng] at e
      split at e
      · rename_i hj
        cases e
        exact ⟨j, by rw [r.int_], (r62_ok hj).1, (r62_ok hj).2, q _ F1 H1 (GoC.refl S1.fh) S1 yld_rng⟩
      · cases e
    | _ => cases e
theorem vi_range2 {a b : Expr} (hm : X.mg "range" = none) (ha : PA X [a, b] (WA C wx .bo ms)) (hg : Gl X "range" := by rfl) (hs : starEach [a, b] X.env = [(false, eval a X.env), (false, eval b X.env)] := by rfl) (hs2 : starEach [b] X.env = [(false, eval b X.env)] := by rfl) (hlen : LenM ms 2 := by exact LenM.cons (LenM.cons LenM.nil)) : PI X tg (.Call (.Name "range" p) [a, b] [] pos) (WI C wx (mRng ms)) := (pi_range2 hg hm ha hs hs2).wk fun σ H Q w => by
  obtain ⟨F, B, n, ds, S, h⟩ := w
  refine ⟨F, B, n, ds, S, WL.strong hlen ((h.bind (R := fun H F' H' vs as => RA C .bo H F' H' vs as ∧ as.length = 2) fun F1 H1 F2 H2 v d G r => r).mono fun vs H1 ⟨F1, n1, as, G1, S1, ⟨r1, hl⟩, h1⟩ => ?_)⟩
  obtain ⟨is, e, q⟩ := h1.retE
  match as, hl with
  | [d, d'], _ =>
    obtain ⟨v, v', rfl, r, r'⟩ := RpL.two r1
    cases d with
    | int i =>
      cases d' with
      | int j =>
        simp only [oRng] at e
        split at e
        · rename_i hj
          cases e
          exact ⟨i, j, by rw [r.int_, r'.int_], ⟨(r62_ok hj.1).1, (r62_ok hj.1).2, (r62_ok hj.2).1, (r62_ok hj.2).2⟩, q _ F1 H1 (GoC.refl S1.fh) S1 yld_rng⟩
        · cases e
      | _ => cases e
    | _ => cases e

/-! ### for -/
def forL (tg : Tg) (body : MS) : List D → MS
  | [] => sNx
  | d :: r => fun n ds => match tg.bind d ds with
    | none => none
    | some ds1 => match body n ds1 with
      | none => none
      | some (.nx, n', ds') => forL tg body r n' ds'
      | some (.ct, n', ds') => forL tg body r n' ds'
      | some (.bk, n', ds') => some (.nx, n', ds')
      | some (.rt d, n', ds') => some (.rt d, n', ds')
      | some (.ex c fs, n', ds') => some (.ex c fs, n', ds')
def sFor (mi : Mo (List D)) (tg : Tg) (body : MS) : MS := sE mi fun as => forL tg body as
theorem Sim.yld {F H H' : Hp} {B : AS} {σ : L2.St} {n : Int} {ds : DS} (S : Sim C F B σ H n ds) (h : H' = H ∨ ∃ p vs, H p = none ∧ H' = upd H p (.tup vs)) : GoC C.q F H F H' ∧ Sim C F B σ H' n ds := by
  rcases h with h | ⟨p, vs, hp, h⟩
  · subst h; exact ⟨GoC.refl S.fh, S⟩
  · subst h; exact S.newO hp
theorem ws_for {iter : Expr} {body : List Stmt} {mi : Mo (List D)} {t : Tg} {mbody : MS} (hp : PassesOwn (model X.prog X.w) X.A X.env X.xe) (hi : PI X tg iter (WI C wx mi)) (hg : PG X tg (GT C t)) (hb : PSs X body (WS C wx kr mbody)) (hc : X.calm = true := by rfl)
    (hs : ∀ x, foldedSetIterable iter X.env x = pure x := by intro _; rfl) : PS X (.For tg iter body [] pos) (WS C wx kr (sFor mi t mbody)) := (ps_for hp hc hi hg hb hs).wk fun E σ H w => by
  obtain ⟨F, B, n, ds, S, h⟩ := w
  refine ⟨F, B, n, ds, S, (wsl_e S h).mono fun J H1 ⟨F1, n1, as, G1, S1, y, h1⟩ => ?_⟩
  refine ⟨fun i m σi Hi => m + i = as.length ∧ ∃ Fi Bi ni dsi, GoS B F H Bi Fi Hi ∧ Later F1 H1 Fi Hi ∧ Sim C Fi Bi σi Hi ni dsi ∧ WSL C wx kr (forL t mbody (as.drop i)) F B ni dsi H E, ⟨as.length, rfl, F1, B, n1, ds, G1.toS S.qB, Later.refl S1.fh, S1, by rw [List.drop_zero]; exact h1⟩, ?_⟩
  rintro i m σi Hi ⟨hm, Fi, Bi, ni, dsi, Gi, Li, Si, hi⟩
  cases hd : as[i]? with
  | none =>
    have hlen := List.getElem?_eq_none_iff.mp hd
    left
    refine ⟨(y Fi Hi Li i).2 hd, ?_⟩
    rw [List.drop_eq_nil_of_le hlen] at hi
    exact hi σi Fi Bi Hi Gi Si
  | some d =>
    have hlt := (List.getElem?_eq_some_iff.mp hd).1
    right
    obtain ⟨hgo, hy⟩ := (y Fi Hi Li i).1 d hd
    refine ⟨hgo, fun σ' H' => (m - 1) + (i + 1) = as.length ∧ ∃ Fi Bi ni dsi, GoS B F H Bi Fi H' ∧ Later F1 H1 Fi H' ∧ Sim C Fi Bi σ' H' ni dsi ∧ WSL C wx kr (forL t mbody (as.drop (i + 1))) F B ni dsi H E, fun σ' H' hn => ⟨m - 1, by omega, hn⟩, fun x H' hx => ?_⟩
    obtain ⟨hH, rx⟩ := hy x H' hx
    obtain ⟨G2, S2⟩ := Si.yld hH
    have hdrop : as.drop i = d :: as.drop (i + 1) := by
      rw [List.drop_eq_getElem_cons hlt]
      rw [(List.getElem?_eq_some_iff.mp hd).2]
    rw [hdrop] at hi
    cases hbd : t.bind d dsi with
    | none => unfold WSL at hi; simp only [forL, hbd] at hi
    | some ds1 =>
      refine ⟨Fi, Bi, ni, dsi, d, ds1, S2, rx, hbd, fun σ2 S3 _ _ => ?_⟩
      refine ⟨Fi, Bi, ni, ds1, S3, ?_⟩
      have Gn : GoS B F H Bi Fi H' := Gi.trans (G2.toS Si.qB)
      have Ln : Later F1 H1 Fi H' := Li.trans G2.later
      have hi0 := hi
      unfold WSL at hi ⊢
      cases eb : mbody ni ds1 with
      | none => simp only [forL, hbd, eb] at hi
      | some pp =>
        obtain ⟨fl, n', ds'⟩ := pp
        cases fl with
        | nx => exact fun σ' F' B' H'' G3 S4 => ⟨by omega, F', B', n', ds', Gn.trans G3, Ln.trans G3.later, S4, WSL.tr (GoS.refl S.fh) (by simp only [forL, hbd, eb]) hi0⟩
        | ct => exact fun σ' F' B' H'' G3 S4 => ⟨by omega, F', B', n', ds', Gn.trans G3, Ln.trans G3.later, S4, WSL.tr (GoS.refl S.fh) (by simp only [forL, hbd, eb]) hi0⟩
        | bk =>
          simp only [forL, hbd, eb] at hi
          exact fun σ' F' B' H'' G3 S4 => hi σ' F' B' H'' (Gn.trans G3) S4
        | rt d =>
          simp only [forL, hbd, eb] at hi
          exact RtP.tr Gn hi
        | ex c fs =>
          simp only [forL, hbd, eb] at hi
          exact fun σ' F' B' H'' od G3 S4 x => hi σ' F' B' H'' od (Gn.trans G3) S4 x

/-! ### while -/
def whileL (t : Mo Bool) (body : MS) : Nat → MS
  | 0 => sNone
  | k + 1 => sE t fun b => match b with
    | false => sNx
    | true => fun n ds => match body n ds with
      | none => none
      | some (.nx, n', ds') => whileL t body k n' ds'
      | some (.ct, n', ds') => whileL t body k n' ds'
      | some (.bk, n', ds') => some (.nx, n', ds')
      | some (.rt d, n', ds') => some (.rt d, n', ds')
      | some (.ex c fs, n', ds') => some (.ex c fs, n', ds')
@[irreducible] def FUEL : Nat := 2 ^ 100000
def sWhile (t : Mo Bool) (body : MS) : MS := whileL t body FUEL
theorem ws_whileK {c : Expr} {body : List Stmt} {t : Mo Bool} {mbody : MS} (fuel : Nat) (hp : PassesOwn (model X.prog X.w) X.A X.env X.xe) (hc : PT X c (WT C wx t)) (hb : PSs X body (WS C wx kr mbody)) : PS X (.While c body [] pos) (WS C wx kr (whileL t mbody fuel)) := (ps_while hp hc hb).wk fun E σ H w => by
  obtain ⟨F, B, n, ds, S, h⟩ := w
  refine ⟨fun m σi Hi => ∃ Fi Bi ni dsi, GoS B F H Bi Fi Hi ∧ Sim C Fi Bi σi Hi ni dsi ∧ WSL C wx kr (whileL t mbody m) F B ni dsi H E, ⟨fuel, F, B, n, ds, GoS.refl S.fh, S, h⟩, ?_⟩
  rintro m σi Hi ⟨Fi, Bi, ni, dsi, Gi, Si, hi⟩
  cases m with
  | zero => exact hi.elim
  | succ m =>
    refine ⟨Fi, Bi, ni, dsi, Si, (wsl_e0 (R := RT) Gi Si hi).mono fun b H1 ⟨F1, n1, d, G1, S1, r1, h1⟩ => ?_⟩
    have r1 : b = d := r1
    subst r1
    have Gn : GoS B F H Bi F1 H1 := Gi.trans (G1.toS Si.qB)
    cases b with
    | false =>
      rw [if_neg Bool.false_ne_true]
      exact h1 σi F1 Bi H1 Gn S1
    | true =>
      rw [if_pos rfl]
      refine ⟨fun σ' H' => ∃ Fi Bi ni dsi, GoS B F H Bi Fi H' ∧ Sim C Fi Bi σ' H' ni dsi ∧ WSL C wx kr (whileL t mbody m) F B ni dsi H E, fun σ' H' hn => ⟨m, Nat.lt_succ_self m, hn⟩, F1, Bi, n1, dsi, S1, ?_⟩
      have h1' := h1
      unfold WSL at h1 ⊢
      cases eb : mbody n1 dsi with
      | none => simp only [eb] at h1
      | some pp =>
        obtain ⟨fl, n', ds'⟩ := pp
        cases fl with
        | nx => exact fun σ' F' B' H'' G3 S4 => ⟨F', B', n', ds', Gn.trans G3, S4, WSL.tr (GoS.refl S.fh) (by simp only [eb]) h1'⟩
        | ct => exact fun σ' F' B' H'' G3 S4 => ⟨F', B', n', ds', Gn.trans G3, S4, WSL.tr (GoS.refl S.fh) (by simp only [eb]) h1'⟩
        | bk =>
          simp only [eb] at h1
          exact fun σ' F' B' H'' G3 S4 => h1 σ' F' B' H'' (Gn.trans G3) S4
        | rt d =>
          simp only [eb] at h1
          exact RtP.tr Gn h1
        | ex c fs =>
          simp only [eb] at h1
          exact fun σ' F' B' H'' od G3 S4 x => h1 σ' F' B' H'' od (Gn.trans G3) S4 x
theorem ws_while {c : Expr} {body : List Stmt} {t : Mo Bool} {mbody : MS} (hp : PassesOwn (model X.prog X.w) X.A X.env X.xe) (hc : PT X c (WT C wx t)) (hb : PSs X body (WS C wx kr mbody)) : PS X (.While c body [] pos) (WS C wx kr (sWhile t mbody)) := ws_whileK FUEL hp hc hb
end
end GW

namespace GW
open PySem L2 PyProof.Rows
abbrev wx0 : WX := fun _ _ _ _ => False
section
variable {X : Cx} {C : Ctx} {wx : WX} {kr k : Nat} {e tg iter elt : Expr} {es : List Expr} {p pos : Pos} {m : M} {ms : Mo (List D)}
/-! ### comprehensions -/
def wipeD (ds : DS) : List Nat → DS
  | [] => ds
  | v :: vs => (wipeD ds vs).set v none
theorem Sim.wipe {F H : Hp} {B : AS} {σ : L2.St} {n : Int} {ds : DS} (S : Sim C F B σ H n ds) {vs : List Nat} (hv : ∀ i ∈ vs, C.pn i = none) : Sim C F B (L2.wipe σ vs) H n (wipeD ds vs) := by
  induction vs with
  | nil => exact S
  | cons v vs ih =>
    have S2 := ih fun i hi => hv i (List.mem_cons_of_mem _ hi)
    refine ⟨S2.fh, S2.bok, S2.cell, fun i w h => ?_, ?_, ?_⟩
    · have hne : v ≠ i := fun z => by
        have := hv v List.mem_cons_self
        rw [z, h] at this; cases this
      show ((L2.wipe σ vs).set v none)[i]? = _
      rw [List.getElem?_set_ne hne]
      exact S2.pin i w h
    · show ((L2.wipe σ vs).set v none).length = ((wipeD ds vs).set v none).length
      rw [List.length_set, List.length_set]; exact S2.len
    · obtain ⟨A, h1, h2, h3⟩ := S2.rep
      refine ⟨A, fun i d e => ?_, h2, h3⟩
      have e : ((wipeD ds vs).set v none)[i]? = some (some d) := e
      by_cases hi : v = i
      · subst hi
        by_cases hl : v < (wipeD ds vs).length
        · rw [List.getElem?_set_self hl] at e; cases e
        · rw [List.getElem?_eq_none (by simpa using hl)] at e; cases e
      · rw [List.getElem?_set_ne hi] at e
        obtain ⟨w, e1, r⟩ := h1 i d e
        exact ⟨w, by show ((L2.wipe σ vs).set v none)[i]? = _; rw [List.getElem?_set_ne hi]; exact e1, r⟩
theorem wipe_get {σ : L2.St} {i : Nat} : ∀ {vs : List Nat}, i ∈ vs → i < σ.length → (L2.wipe σ vs)[i]? = some none
  | v :: vs, hm, hl => by
    show ((L2.wipe σ vs).set v none)[i]? = _
    by_cases hv : v = i
    · subst hv
      rw [List.getElem?_set_self (by rw [wipe_length]; exact hl)]
    · rw [List.getElem?_set_ne hv]
      rcases List.mem_cons.mp hm with z | z
      · exact (hv z.symm).elim
      · exact wipe_get z hl
theorem wipe_same {σ σ2 : L2.St} {vs : List Nat} (hl : σ2.length = (L2.wipe σ vs).length) (h : ∀ i, i ∉ vs → σ2[i]? = (L2.wipe σ vs)[i]?) : L2.wipe σ2 vs = L2.wipe σ vs := by
  rw [wipe_length] at hl
  refine List.ext_getElem? fun i => ?_
  by_cases hi : i ∈ vs
  · by_cases hlt : i < σ.length
    · rw [wipe_get hi (by rw [hl]; exact hlt), wipe_get hi hlt]
    · rw [List.getElem?_eq_none (by rw [wipe_length, hl]; omega), List.getElem?_eq_none (by rw [wipe_length]; omega)]
  · rw [wipe_out hi, h i hi]
def compL (tg : Tg) (tt : Mo Bool) (me : M) (vs : List Nat) : List D → Mo (List D)
  | [] => ret (some [])
  | d :: r => fun n ds => match tg.bind d (wipeD ds vs) with
    | none => none
    | some ds1 => match tt n ds1 with
      | some (.ok true, n1) => (match me n1 ds1 with
        | some (.ok y, n2) => (match compL tg tt me vs r n2 ds with
          | some (.ok ys, n3) => some (.ok (y :: ys), n3)
          | _ => none)
        | _ => none)
      | some (.ok false, n1) => compL tg tt me vs r n1 ds
      | _ => none
def mLc (mi : Mo (List D)) (tg : Tg) (tt : Mo Bool) (me : M) (vs : List Nat) : M := mb mi fun as => mb (compL tg tt me vs as) fun ys => ret (if as.length ≤ 16777215 then some (.lst ys) else none)
theorem compL_len {tg : Tg} {tt : Mo Bool} {me : M} {vs : List Nat} : ∀ {as : List D} {n : Int} {ds : DS} {ys : List D} {n' : Int}, compL tg tt me vs as n ds = some (.ok ys, n') → ys.length ≤ as.length
  | [], n, ds, ys, n', h => by cases h; exact Nat.le_refl _
  | d :: r, n, ds, ys, n', h => by
    unfold compL at h
    split at h
    · cases h
    · split at h
      · split at h
        · split at h
          · rename_i h2
            cases h
            have := compL_len h2
            simp only [List.length_cons]; omega
          · cases h
        · cases h
      · have := compL_len h
        simp only [List.length_cons]; omega
      · cases h
/-- an own thing that the state does not speak of is written -/
theorem Sim.updO {F H : Hp} {B : AS} {σ : L2.St} {n : Int} {ds : DS} (S : Sim C F B σ H n ds) {p : Addr} {o o' : HO} (hp : H p = some o) (ho : Mk o = true) (hF : F p = none) (hB : ¬ B p) : Sim C F B σ (upd H p o') n ds where
  fh := fun a u e => by
    have hne : a ≠ p := fun z => by rw [z, hF] at e; cases e
    rw [upd_ne hne]; exact S.fh a u e
  bok := fun a ha => by
    have hne : a ≠ p := fun z => hB (z ▸ ha)
    obtain ⟨h1, u, h2, h3⟩ := S.bok a ha
    exact ⟨h1, u, by rw [upd_ne hne]; exact h2, h3⟩
  cell := fun q hq => by
    have hne : q ≠ p := fun z => hB (z ▸ (S.cell q hq).1)
    exact ⟨(S.cell q hq).1, by rw [upd_ne hne]; exact (S.cell q hq).2⟩
  pin := S.pin
  len := S.len
  rep := by
    obtain ⟨A, h1, h2, h3⟩ := S.rep
    refine ⟨A, fun i d e => ?_, h2, h3⟩
    obtain ⟨v, e1, r⟩ := h1 i d e
    refine ⟨v, e1, r.mono (Same.refl _) (fun a u e n => ?_) fun a u ha e => ?_⟩
    · have hne : a ≠ p := fun z => by rw [z, hp] at e; cases e; rw [ho] at n; cases n
      rw [upd_ne hne]; exact e
    · have hne : a ≠ p := fun z => hB (z ▸ (h2 i a ha).1)
      rw [upd_ne hne]; exact e
/-- the list under way: at L, its items' things one's own -/
structure Acc (K : PySem.W.Frag) (k : Nat) (H1 F H : Hp) (L : Addr) (vs : List V) (ds : List D) : Prop where
  at_ : H L = some (.lst vs)
  nF : F L = none
  len : vs.length = ds.length
  its : ∃ As : Nat → AS, (∀ (i : Nat) v d, vs[i]? = some v → ds[i]? = some d → Rp K F H k v d (As i)) ∧ (∀ i a, As i a → a ≠ L ∧ H1 a = none ∧ F a = none ∧ ∃ o, H a = some o ∧ Mk o = true) ∧ (∀ i j a, As i a → As j a → i = j) ∧ ∀ i, vs.length ≤ i → ∀ a, ¬ As i a
/-- an item more: it was made since (Fi, Hi) -/
theorem Acc.push {K : PySem.W.Frag} {H1 Fi Hi F H : Hp} {L : Addr} {vs : List V} {ds : List D} {v : V} {d : D} {A : AS} {q : Option Addr} (a : Acc K k H1 Fi Hi L vs ds) (G : GoC q Fi Hi F H) (hq : ∀ x, q = some x → H1 x ≠ none) (hL : H1 L = none) (hdm : ∀ x, Hi x = none → H1 x = none)
    (r : Rp K F H k v d A) (f : ∀ x, A x → Hi x = none ∧ F x = none ∧ ∃ o, H x = some o ∧ Mk o = true) : H L = some (.lst vs) ∧ F L = none ∧ Acc K k H1 F (upd H L (.lst (vs ++ [v]))) L (vs ++ [v]) (ds ++ [d]) := by
  obtain ⟨As, h1, h2, h3, h4⟩ := a.its
  have nq : ∀ x, H1 x = none → q ≠ some x := fun x h z => hq x z h
  have hHL : H L = some (.lst vs) := G.go.hh L _ a.at_ (nq L hL)
  have hFL : F L = none := G.go.nf L _ a.nF a.at_
  have hAL : ∀ x, A x → x ≠ L := fun x hx z => by
    have := (f x hx).1
    rw [z, a.at_] at this; cases this
  have hup : ∀ x o, x ≠ L → H x = some o → upd H L (.lst (vs ++ [v])) x = some o := fun x o hx e => by rw [upd_ne hx]; exact e
  have ht : ∀ x o, H x = some o → Mk o = false → upd H L (.lst (vs ++ [v])) x = some o := fun x o e n => by
    refine hup x o (fun z => ?_) e
    rw [z, hHL] at e; cases e; cases n
  refine ⟨hHL, hFL, upd_same, hFL, by simp [a.len], ?_⟩
  classical
  refine ⟨fun i => if i = vs.length then A else As i, fun i w d' e1 e2 => ?_, fun i x hx => ?_, fun i j x hi hj => ?_, fun i hi x hx => ?_⟩
  · by_cases hi : i = vs.length
    · subst hi
      rw [List.getElem?_concat_length] at e1
      rw [a.len, List.getElem?_concat_length] at e2
      cases e1; cases e2
      simp only [if_true]
      exact r.mono (Same.refl _) ht fun x o hx e => hup x o (hAL x hx) e
    · have hlt : i < vs.length := by
        have := (List.getElem?_eq_some_iff.mp e1).1
        rw [List.length_append, List.length_singleton] at this; omega
      rw [List.getElem?_append_left hlt] at e1
      rw [List.getElem?_append_left (by rw [← a.len]; exact hlt)] at e2
      simp only [if_neg hi]
      exact ((h1 i w d' e1 e2).mono G.go.ff G.go.ht fun x o hx e => G.go.hh x o e (nq x (h2 i x hx).2.1)).mono (Same.refl _) ht fun x o hx e => hup x o (h2 i x hx).1 e
  · by_cases hi : i = vs.length
    · simp only [if_pos hi] at hx
      obtain ⟨z1, z2, o, z3, z4⟩ := f x hx
      exact ⟨hAL x hx, hdm x z1, z2, o, hup x o (hAL x hx) z3, z4⟩
    · simp only [if_neg hi] at hx
      obtain ⟨z1, z2, z3, o, z4, z5⟩ := h2 i x hx
      exact ⟨z1, z2, G.go.nf x o z3 z4, o, hup x o z1 (G.go.hh x o z4 (nq x z2)), z5⟩
  · have old : ∀ i, As i x → A x → False := fun i z1 z2 => by
      obtain ⟨_, _, _, o, z4, _⟩ := h2 i x z1
      have := (f x z2).1
      rw [z4] at this; cases this
    by_cases hi' : i = vs.length <;> by_cases hj' : j = vs.length
    · rw [hi', hj']
    · simp only [if_pos hi'] at hi
      simp only [if_neg hj'] at hj
      exact (old j hj hi).elim
    · simp only [if_neg hi'] at hi
      simp only [if_pos hj'] at hj
      exact (old i hi hj).elim
    · simp only [if_neg hi'] at hi
      simp only [if_neg hj'] at hj
      exact h3 i j x hi hj
  · rw [List.length_append, List.length_singleton] at hi
    simp only [if_neg (show ¬ i = vs.length by omega)] at hx
    exact h4 i (by omega) x hx
/-- nothing new but what else was made since -/
theorem Acc.go {K : PySem.W.Frag} {H1 F H F' H' : Hp} {L : Addr} {vs : List V} {ds : List D} {q : Option Addr} (a : Acc K k H1 F H L vs ds) (G : GoC q F H F' H') (hq : ∀ x, q = some x → H1 x ≠ none) (hL : H1 L = none) : Acc K k H1 F' H' L vs ds := by
  obtain ⟨As, h1, h2, h3, h4⟩ := a.its
  have nq : ∀ x, H1 x = none → q ≠ some x := fun x h z => hq x z h
  refine ⟨G.go.hh L _ a.at_ (nq L hL), G.go.nf L _ a.nF a.at_, a.len, As, fun i v d e1 e2 => (h1 i v d e1 e2).mono G.go.ff G.go.ht fun x o hx e => G.go.hh x o e (nq x (h2 i x hx).2.1), fun i x hx => ?_, h3, h4⟩
  obtain ⟨z1, z2, z3, o, z4, z5⟩ := h2 i x hx
  exact ⟨z1, z2, G.go.nf x o z3 z4, o, G.go.hh x o z4 (nq x z2), z5⟩
theorem compL_noex {tg : Tg} {tt : Mo Bool} {me : M} {vs : List Nat} {c : Addr} {fs : List (Str × Int)} {n' : Int} : ∀ {as : List D} {n : Int} {ds : DS}, compL tg tt me vs as n ds ≠ some (.ex c fs, n')
  | [], n, ds, h => by cases h
  | d :: r, n, ds, h => by
    unfold compL at h
    split at h
    · cases h
    · split at h
      · split at h
        · split at h
          · cases h
          · cases h
        · cases h
      · exact compL_noex h
      · cases h
theorem lc_of {t : Tg} {mi : Mo (List D)} {tt : Mo Bool} {me : M} {vs : List Nat} (ht : ∀ i ∈ t.slots, i ∈ vs) (hv : ∀ i ∈ vs, C.pn i = none) {σ : L2.St} {H : Hp} {Q : VK} (w : W C wx .fz (k + 1) (mLc mi t tt me vs) σ H Q) :
    tLc (WI C wx mi) (GT C t) (WT C wx0 tt) (W C wx0 .fz k me) vs σ H Q := by
  obtain ⟨F, B, n, ds, S, h⟩ := w
  refine ⟨F, B, n, ds, S, (h.bind fun F1 H1 F2 H2 v d G r => r.tr G).mono fun J H1 ⟨F1, n1, as, G1, S1, y, h1⟩ L hL => ?_⟩
  have hFL : F1 L = none := none_some (fun a o e => ⟨o, S1.fh a o e⟩) hL
  have hqn : ∀ x, C.q = some x → H1 x ≠ none := fun x hx => S1.nq hx
  have nB : ¬ B L := fun z => by
    obtain ⟨_, o, e, _⟩ := S1.bok L z
    rw [hL] at e; cases e
  -- what the whole comes to
  obtain ⟨ys, n2, ec, hlen, q⟩ : ∃ ys n2, compL t tt me vs as n1 ds = some (.ok ys, n2) ∧ as.length ≤ 16777215 ∧ ∀ v F' H', GoC C.q F1 H1 F' H' → Sim C F' B σ H' n2 ds → RV C .fz (k + 1) H1 F' H' v (.lst ys) → Q v H' := by
    unfold WL at h1
    cases ec : compL t tt me vs as n1 ds with
    | none => simp only [mb, ec] at h1
    | some pp =>
      obtain ⟨o, n2⟩ := pp
      cases o with
      | ex c fs => exact (compL_noex ec).elim
      | ok ys =>
        by_cases hl : as.length ≤ 16777215
        · simp only [mb, ec, ret, if_pos hl] at h1
          exact ⟨ys, n2, rfl, hl, h1⟩
        · simp only [mb, ec, ret, if_neg hl] at h1
  let WI' : Nat → Nat → Hp → Prop := fun i m Hi => m + i = as.length ∧ ∃ Fi ni vsA dsA, GoC C.q F1 H1 Fi Hi ∧ Sim C Fi B σ Hi ni ds ∧ Acc C.K k H1 Fi Hi L vsA dsA ∧ dsA.length ≤ i ∧ ∃ rest, compL t tt me vs (as.drop i) ni ds = some (.ok rest, n2) ∧ ys = dsA ++ rest
  refine ⟨WI', ⟨as.length, rfl, F1, n1, [], [], GoC.newO S1.fh hL, (S1.newO hL).2, ⟨upd_same, hFL, rfl, fun _ _ => False, fun i v d e => by simp at e, fun _ _ h => h.elim, fun _ _ _ h => h.elim, fun _ _ _ h => h⟩, Nat.zero_le _, ys, by rw [List.drop_zero]; exact ec, rfl⟩, ?_⟩
  rintro i m Hi ⟨hm, Fi, ni, vsA, dsA, Gi, Si, ac, hacl, rest, er, ey⟩
  cases hd : as[i]? with
  | none =>
    have hl := List.getElem?_eq_none_iff.mp hd
    left
    refine ⟨(y Fi Hi Gi.later i).2 hd, ?_⟩
    rw [List.drop_eq_nil_of_le hl] at er
    cases er
    rw [List.append_nil] at ey
    subst ey
    obtain ⟨As, a1, a2, a3, a4⟩ := ac.its
    refine q (.ref L) Fi Hi Gi Si ⟨fun a => a = L ∨ ∃ i, As i a, .lstO As ac.at_ (.inl rfl) ac.len a1 (fun i a ha => ⟨.inr ⟨i, ha⟩, (a2 i a ha).1⟩) a3, fun a ha => ?_⟩
    rcases ha with ha | ⟨j, ha⟩
    · subst ha; exact ⟨hL, ac.nF, _, ac.at_, rfl⟩
    · exact (a2 j a ha).2
  | some d =>
    have hlt := (List.getElem?_eq_some_iff.mp hd).1
    right
    obtain ⟨hgo, hy⟩ := (y Fi Hi Gi.later i).1 d hd
    refine ⟨hgo, fun H' => WI' (i + 1) (m - 1) H', fun H' hn => ⟨m - 1, by omega, hn⟩, fun x H' hx => ?_⟩
    obtain ⟨hH, rx⟩ := hy x H' hx
    obtain ⟨G2, S2⟩ := Si.yld hH
    have hdrop : as.drop i = d :: as.drop (i + 1) := by
      rw [List.drop_eq_getElem_cons hlt]
      rw [(List.getElem?_eq_some_iff.mp hd).2]
    rw [hdrop] at er
    unfold compL at er
    cases hbd : t.bind d (wipeD ds vs) with
    | none => simp only [hbd] at er; cases er
    | some ds1 =>
      simp only [hbd] at er
      refine ⟨Fi, B, ni, wipeD ds vs, d, ds1, S2.wipe hv, rx, hbd, fun σ2 S3 hl2 hs2 => ⟨wipe_same hl2 fun j hj => hs2 j fun z => hj (ht j z), Fi, B, ni, ds1, S3, ?_⟩⟩
      unfold WL
      cases et : tt ni ds1 with
      | none => simp only [et] at er; cases er
      | some pp =>
        obtain ⟨o, n3⟩ := pp
        cases o with
        | ex c fs => simp only [et] at er; cases er
        | ok b =>
          intro bv F3 H3 G3 S4 eb
          have eb : bv = b := eb
          subst eb
          have Gi3 : GoC C.q Fi Hi F3 H3 := G2.trans G3
          cases bv with
          | false =>
            simp only [et] at er
            rw [if_neg Bool.false_ne_true]
            exact ⟨by omega, F3, n3, vsA, dsA, Gi.trans Gi3, Si.go Gi3 (fun q hq => (S4.cell q hq).2), ac.go Gi3 hqn hL, by omega, rest, er, ey⟩
          | true =>
            rw [if_pos rfl]
            refine ⟨F3, B, n3, ds1, S4, ?_⟩
            unfold WL
            cases em : me n3 ds1 with
            | none => simp only [et, em] at er; cases er
            | some pp =>
              obtain ⟨o, n4⟩ := pp
              cases o with
              | ex c fs => simp only [et, em] at er; cases er
              | ok dy =>
                rintro vy F4 H4 G4 S5 ⟨A, r, f⟩
                have Gi4 : GoC C.q Fi Hi F4 H4 := Gi3.trans G4
                obtain ⟨p1, p2, p3⟩ := ac.push Gi4 hqn hL (fun x hx => Gi.free hx) r fun x hx => ⟨Gi3.free (f x hx).1, (f x hx).2⟩
                have hvl : vsA.length ≤ i := by rw [ac.len]; exact hacl
                cases ec2 : compL t tt me vs (as.drop (i + 1)) n4 ds with
                | none => simp only [et, em, ec2] at er; cases er
                | some pp =>
                  obtain ⟨o, n5⟩ := pp
                  cases o with
                  | ex c fs => exact (compL_noex ec2).elim
                  | ok ys2 =>
                    simp only [et, em, ec2] at er
                    cases er
                    refine ⟨vsA, p1, by rw [sizeLine_eq]; omega, by omega, F4, n4, vsA ++ [vy], dsA ++ [dy], ?_, ?_, p3, by rw [List.length_append, List.length_singleton]; omega, ys2, ec2, by rw [ey]; simp⟩
                    · have Gx := Gi.trans Gi4
                      have hne : ∀ a o, H1 a = some o → a ≠ L := fun a o e z => by rw [z, hL] at e; cases e
                      exact ⟨⟨Gx.go.ff, fun a o e => by
                        have : a ≠ L := fun z => by rw [z, p2] at e; cases e
                        rw [upd_ne this]; exact Gx.go.fh a o e, fun a o e n => by rw [upd_ne (hne a o e)]; exact Gx.go.hh a o e n, fun a o e n => by rw [upd_ne (hne a o e)]; exact Gx.go.ht a o e n, Gx.go.nf⟩, fun a o e => by rw [upd_ne (hne a o e)]; exact Gx.dm a o e⟩
                    · exact (Si.go Gi4 (fun q hq => (S5.cell q hq).2)).updO p1 rfl p2 nB
theorem ve_lc {ifs : List Expr} {scope : Scope} {own : List (Str × Nat)} {t : Tg} {mi : Mo (List D)} {tt : Mo Bool} {me : M} (hi : PI X tg iter (WI C wx mi)) (ok : BlkOk X.N X.env.scope scope own)
    (hg : ∀ (s : Shared) (H : Hp) (C0 : Addr) (cl : List (Str × Addr)) (fp : List Addr), PG (X.blk s H scope (compEnvC scope cl C0 X.env) fp) tg (GT C t)) (ht : ∀ (s : Shared) (H : Hp) (C0 : Addr) (cl : List (Str × Addr)) (fp : List Addr), PTs (X.blk s H scope (compEnvC scope cl C0 X.env) fp) ifs (WT C wx0 tt))
    (he : ∀ (s : Shared) (H : Hp) (C0 : Addr) (cl : List (Str × Addr)) (fp : List Addr), PE (X.blk s H scope (compEnvC scope cl C0 X.env) fp) elt (W C wx0 .fz k me)) (hsl : ∀ i ∈ t.slots, i ∈ own.map (·.2)) (hv : ∀ i ∈ own.map (·.2), C.pn i = none)
    (hN : X.N.Nodup) (hc : X.calm = true := by rfl) (hs : ∀ x, foldedSetIterable iter X.env x = pure x := by intro _; rfl) :
    PE X (.ListComp elt [⟨tg, iter, ifs, 0⟩] scope pos) (W C wx .fz (k + 1) (mLc mi t tt me (own.map (·.2)))) :=
  (pe_lc hc hN hi ok hg ht he hs).wk fun σ H Q w => lc_of hsl hv w
def mYes : Mo Bool := ret (some true)
theorem vts_nil : PTs X [] (WT C wx mYes) := ⟨fun pins s σ H Q I w => pts_nil.run pins s σ H Q I (by
  obtain ⟨F, B, n, ds, S, h⟩ := w
  obtain ⟨d, e, q⟩ := h.retE
  cases e
  exact q true F H (GoC.refl S.fh) S rfl)⟩
theorem vts_one {c : Expr} {t : Mo Bool} (h : PT X c (WT C wx t)) : PTs X [c] (WT C wx t) := pts_one h
/-- y = [..] on one line -/
theorem ws_setLc {i : Nat} {y : Str} {py spos : Pos} {ifs : List Expr} {scope : Scope} {own : List (Str × Nat)} {t : Tg} {mi : Mo (List D)} {tt : Mo Bool} {me : M} (hi : PI X tg iter (WI C wx mi)) (ok : BlkOk X.N X.env.scope scope own)
    (hg : ∀ (s : Shared) (H : Hp) (C0 : Addr) (cl : List (Str × Addr)) (fp : List Addr), PG (X.blk s H scope (compEnvC scope cl C0 X.env) fp) tg (GT C t)) (ht : ∀ (s : Shared) (H : Hp) (C0 : Addr) (cl : List (Str × Addr)) (fp : List Addr), PTs (X.blk s H scope (compEnvC scope cl C0 X.env) fp) ifs (WT C wx0 tt))
    (he : ∀ (s : Shared) (H : Hp) (C0 : Addr) (cl : List (Str × Addr)) (fp : List Addr), PE (X.blk s H scope (compEnvC scope cl C0 X.env) fp) elt (W C wx0 .fz k me)) (hsl : ∀ i ∈ t.slots, i ∈ own.map (·.2)) (hv : ∀ i ∈ own.map (·.2), C.pn i = none)
    (hT : C.T i = k + 1) (hp : C.pn i = none)
    (hN : X.N.Nodup) (hy : X.N[i]? = some y) (hyl : X.env.scope.names.lookup y = some .local) (hsw : swapsWith (.ListComp elt [⟨tg, iter, ifs, 0⟩] scope pos) (some (.Name y py)) spos.line X.env = pure true) (hc : X.calm = true := by rfl) (hs : ∀ x, foldedSetIterable iter X.env x = pure x := by intro _; rfl) :
    PS X (.Assign [.Name y py] (.ListComp elt [⟨tg, iter, ifs, 0⟩] scope pos) spos) (WS C wx kr (sSet i (mLc mi t tt me (own.map (·.2))))) := (ps_setLc hc hN hy hyl hsw hi ok hg ht he hs).wk fun E σ H w => by
  obtain ⟨F, B, n, ds, S, h⟩ := w
  refine lc_of (C := C) (wx := wx) hsl hv ⟨F, B, n, ds, S, (wsl_e (R := RV C .fz (k + 1)) S h).mono fun v H1 ⟨F1, n1, d, G1, S1, ⟨A, r, f⟩, h1⟩ => ?_⟩
  obtain ⟨f1, f2⟩ := fresh_ok S f
  have S2 := S1.set (H0 := H) (by rw [hT]; exact r) f1 hp f2
  exact h1 _ F1 _ H1 (goS_new S G1 f) S2
/-- .. where the list is to stand -/
theorem ws_setLc0 {i : Nat} {y : Str} {py spos : Pos} {ifs : List Expr} {scope : Scope} {own : List (Str × Nat)} {t : Tg} {mi : Mo (List D)} {tt : Mo Bool} {me : M} (hi : PI X tg iter (WI C wx mi)) (ok : BlkOk X.N X.env.scope scope own)
    (hg : ∀ (s : Shared) (H : Hp) (C0 : Addr) (cl : List (Str × Addr)) (fp : List Addr), PG (X.blk s H scope (compEnvC scope cl C0 X.env) fp) tg (GT C t)) (ht : ∀ (s : Shared) (H : Hp) (C0 : Addr) (cl : List (Str × Addr)) (fp : List Addr), PTs (X.blk s H scope (compEnvC scope cl C0 X.env) fp) ifs (WT C wx0 tt))
    (he : ∀ (s : Shared) (H : Hp) (C0 : Addr) (cl : List (Str × Addr)) (fp : List Addr), PE (X.blk s H scope (compEnvC scope cl C0 X.env) fp) elt (W C wx0 .fz k me)) (hsl : ∀ i ∈ t.slots, i ∈ own.map (·.2)) (hv : ∀ i ∈ own.map (·.2), C.pn i = none)
    (hT : C.T i = 0) (hp : C.pn i = none)
    (hN : X.N.Nodup) (hy : X.N[i]? = some y) (hyl : X.env.scope.names.lookup y = some .local) (hsw : swapsWith (.ListComp elt [⟨tg, iter, ifs, 0⟩] scope pos) (some (.Name y py)) spos.line X.env = pure true) (hc : X.calm = true := by rfl) (hs : ∀ x, foldedSetIterable iter X.env x = pure x := by intro _; rfl) :
    PS X (.Assign [.Name y py] (.ListComp elt [⟨tg, iter, ifs, 0⟩] scope pos) spos) (WS C wx kr (sSet i (mLc mi t tt me (own.map (·.2))))) := (ps_setLc hc hN hy hyl hsw hi ok hg ht he hs).wk fun E σ H w => by
  obtain ⟨F, B, n, ds, S, h⟩ := w
  have hz : W C wx .fz 0 (mLc mi t tt me (own.map (·.2))) σ H (fun x H1 => gName i x σ H1 E.nx) := ⟨F, B, n, ds, S, (wsl_e (R := RV C .fz 0) S h).mono fun v H1 ⟨F1, n1, d, G1, S1, ⟨A, r, f⟩, h1⟩ => h1 _ F1 B H1 (G1.toS S.qB) (S1.set0 r hT hp)⟩
  exact lc_of (C := C) (wx := wx) (k := k) hsl hv (W.frz hz)
end
end GW

namespace GW
open PySem L2 PyProof.Rows
section
variable {X : Cx} {C : Ctx} {wx : WX} {kr k : Nat} {e : Expr} {pos : Pos} {m : M}
/-! ### a list of one's own is changed -/
/-- the list in slot i -/
structure OwnL (C : Ctx) (F H : Hp) (B : AS) (σ : L2.St) (i : Nat) (p : Addr) (vs : List V) (as : List D) (k : Nat) (As : Nat → AS) : Prop where
  sl : σ[i]? = some (some (.ref p))
  at_ : H p = some (.lst vs)
  len : vs.length = as.length
  its : ∀ (j : Nat) v d, vs[j]? = some v → as[j]? = some d → Rp C.K F H k v d (As j)
  s : ∀ (j : Nat) a, As j a → B a ∧ a ≠ p ∧ C.q ≠ some a
  dj : ∀ (j j' : Nat) a, As j a → As j' a → j = j'
  pB : B p
  pq : C.q ≠ some p
theorem Sim.ownL {F H : Hp} {B : AS} {σ : L2.St} {n : Int} {ds : DS} {i : Nat} {as : List D} (S : Sim C F B σ H n ds) (hd : ds[i]? = some (some (.lst as))) (hT : C.T i = k + 1) :
    ∃ p vs As, OwnL C F H B σ i p vs as k As ∧ ∀ (vs' : List V) (as' : List D) (As' : Nat → AS), vs'.length = as'.length → (∀ (j : Nat) v d, vs'[j]? = some v → as'[j]? = some d → Rp C.K F H k v d (As' j)) →
      (∀ (j : Nat) a, As' j a → a ≠ p ∧ C.q ≠ some a ∧ ((∃ j', As j' a) ∨ (¬ B a ∧ F a = none ∧ ∃ o, H a = some o ∧ Mk o = true))) → (∀ (j j' : Nat) a, As' j a → As' j' a → j = j') →
      Sim C F (fun a => B a ∨ ∃ j, As' j a) σ (upd H p (.lst vs')) n (ds.set i (some (.lst as'))) ∧ ∀ o, H p = some o → Mk o = true := by
  obtain ⟨A, h1, h2, h3⟩ := S.rep
  obtain ⟨v, hv, r⟩ := h1 i _ hd
  rw [hT] at r
  cases r with
  | @lstO _ _ p vs _ As h hA l c s dj =>
    have hpB := h2 i p hA
    refine ⟨p, vs, As, ⟨hv, h, l, c, fun j a ha => ⟨(h2 i a (s j a ha).1).1, (s j a ha).2, (h2 i a (s j a ha).1).2⟩, dj, hpB.1, hpB.2⟩, fun vs' as' As' l' c' s' dj' => ⟨?_, fun o e => by rw [h] at e; cases e; rfl⟩⟩
    have hup : ∀ a o, a ≠ p → H a = some o → upd H p (.lst vs') a = some o := fun a o hne e => by rw [upd_ne hne]; exact e
    have htt : ∀ a o, H a = some o → Mk o = false → upd H p (.lst vs') a = some o := fun a o e hm => hup a o (fun z => by rw [z, h] at e; cases e; cases hm) e
    have hFp : F p = none := (S.bok p hpB.1).1
    refine ⟨fun a o e => hup a o (fun z => by rw [z, hFp] at e; cases e) (S.fh a o e), fun a ha => ?_, fun q hq => ⟨.inl (S.cell q hq).1, hup q _ (fun z => hpB.2 (z ▸ hq)) (S.cell q hq).2⟩, S.pin, by rw [List.length_set]; exact S.len, ?_⟩
    · by_cases hap : a = p
      · subst hap; exact ⟨hFp, _, upd_same, rfl⟩
      · rcases ha with ha | ⟨j, ha⟩
        · obtain ⟨z1, o, z2, z3⟩ := S.bok a ha
          exact ⟨z1, o, hup a o hap z2, z3⟩
        · obtain ⟨_, _, z | ⟨_, z1, o, z2, z3⟩⟩ := s' j a ha
          · obtain ⟨j', z⟩ := z
            obtain ⟨z1, o, z2, z3⟩ := S.bok a (h2 i a (s j' a z).1).1
            exact ⟨z1, o, hup a o hap z2, z3⟩
          · exact ⟨z1, o, hup a o hap z2, z3⟩
    · classical
      refine ⟨fun j => if j = i then (fun a => a = p ∨ ∃ j, As' j a) else A j, fun j d e => ?_, fun j a ha => ?_, fun j j' a ha ha' => ?_⟩
      · by_cases hj : j = i
        · subst hj
          have hl : j < ds.length := (List.getElem?_eq_some_iff.mp hd).1
          rw [List.getElem?_set_self hl] at e
          cases e
          refine ⟨.ref p, hv, ?_⟩
          rw [hT]
          simp only [if_true]
          exact .lstO As' upd_same (.inl rfl) l' (fun j' v d a b => (c' j' v d a b).mono (Same.refl _) htt fun a o ha e => hup a o (s' j' a ha).1 e) (fun j' a ha => ⟨.inr ⟨j', ha⟩, (s' j' a ha).1⟩) dj'
        · rw [List.getElem?_set_ne (Ne.symm hj)] at e
          obtain ⟨w, e1, r1⟩ := h1 j d e
          refine ⟨w, e1, ?_⟩
          simp only [if_neg hj]
          exact r1.mono (Same.refl _) htt fun a o ha e => hup a o (fun z => hj (h3 j i a ha (z ▸ hA))) e
      · by_cases hj : j = i
        · simp only [if_pos hj] at ha
          rcases ha with ha | ⟨j', ha⟩
          · subst ha; exact ⟨.inl hpB.1, hpB.2⟩
          · exact ⟨.inr ⟨j', ha⟩, (s' j' a ha).2.1⟩
        · simp only [if_neg hj] at ha
          exact ⟨.inl (h2 j a ha).1, (h2 j a ha).2⟩
      · have cross : ∀ j, j ≠ i → A j a → (a = p ∨ ∃ j, As' j a) → False := fun j hj z1 z2 => by
          rcases z2 with z2 | ⟨j', z2⟩
          · subst z2; exact hj (h3 j i _ z1 hA)
          · obtain ⟨_, _, z | ⟨z, _⟩⟩ := s' j' a z2
            · obtain ⟨j2, z⟩ := z
              exact hj (h3 j i a z1 (s j2 a z).1)
            · exact z (h2 j a z1).1
        by_cases hj : j = i <;> by_cases hj' : j' = i
        · rw [hj, hj']
        · simp only [if_pos hj] at ha
          simp only [if_neg hj'] at ha'
          exact (cross j' hj' ha' ha).elim
        · simp only [if_neg hj] at ha
          simp only [if_pos hj'] at ha'
          exact (cross j hj ha ha').elim
        · simp only [if_neg hj] at ha
          simp only [if_neg hj'] at ha'
          exact h3 j j' a ha ha'
/-- the heap's step of such a change, from the statement's start -/
theorem goS_mut {F H F1 H1 : Hp} {B : AS} {σ : L2.St} {n n1 : Int} {ds : DS} {p : Addr} {o : HO} {As' : Nat → AS} (S : Sim C F B σ H n ds) (G : GoC C.q F H F1 H1) (S1 : Sim C F1 B σ H1 n1 ds) (hpB : B p) (ho : ∀ o, H1 p = some o → Mk o = true) (hs : ∀ j a, As' j a → B a ∨ H a = none) :
    GoS B F H (fun a => B a ∨ ∃ j, As' j a) F1 (upd H1 p o) := by
  have g := G.toS (B := B) S.qB
  refine ⟨g.ff, fun a u e => ?_, fun a u e nb => ?_, fun a u e hm => ?_, g.nf, fun a ha => ha.elim .inl fun ⟨j, z⟩ => hs j a z, fun a u e => ?_⟩
  · have : a ≠ p := fun z => by rw [z, (S1.bok p hpB).1] at e; cases e
    rw [upd_ne this]; exact g.fh a u e
  · have : a ≠ p := fun z => nb (z ▸ hpB)
    rw [upd_ne this]; exact g.hh a u e nb
  · have : a ≠ p := fun z => by
      have := ho u (z ▸ g.ht a u e hm)
      rw [hm] at this; cases this
    rw [upd_ne this]; exact g.ht a u e hm
  · by_cases h : a = p
    · exact ⟨o, by rw [h]; exact upd_same⟩
    · obtain ⟨u', e'⟩ := g.dm a u e
      exact ⟨u', by rw [upd_ne h]; exact e'⟩
/-- xs.append(e) -/
def sApp (i : Nat) (m : M) : MS := fun n ds => match ds[i]? with
  | some (some (.lst as)) => sE m (fun d n ds => if as.length < 16777216 then some (.nx, n, ds.set i (some (.lst (as ++ [d])))) else none) n ds
  | _ => none
theorem ws_app {i : Nat} {o : Expr} {apos cpos : Pos} (ho : PE X o (tVar i)) (he : PE X e (W C wx .fz k m)) (hT : C.T i = k + 1) (hbase : attributeBase o "append" X.env (eval o X.env) = eval o X.env := by rfl)
    (hfew : ((backTo cpos (starEach [e] X.env)).all (fun x => !x.1) && (backToKw cpos (keywordEach [] X.env)).all (fun x => x.1.isSome)
      && decide ([e].length + ([] : List Keyword).length + (if ([] : List Keyword).isEmpty then 0 else 1) < 30)) = true := by rfl)
    (hline : (apos.endLine == cpos.line) = true := by rfl) (hs : starEach [e] X.env = (false, eval e X.env) :: starEach [] X.env := by rfl) (hplain : (backTo cpos (starEach [] X.env)).any (·.1) = false := by rfl)
    (hsw : swapsWith (.Call (.Attribute o "append" apos) [e] [] cpos) none pos.line X.env = pure false := by rfl) : PS X (.Expr (.Call (.Attribute o "append" apos) [e] [] cpos) pos) (WS C wx kr (sApp i m)) :=
  (ps_expr (pe_bm PySem.F.plainAttrs_list PySem.F.slot_list_append PySem.F.type_list_append mt_append ho (pa_cons he pa_nil hs) hbase hfew hline hs hplain) hsw).wk fun E σ H w => by
  obtain ⟨F, B, n, ds, S, h⟩ := w
  cases e0 : ds[i]? with
  | none => unfold WSL sApp at h; simp only [e0] at h
  | some x =>
    cases x with
    | none => unfold WSL sApp at h; simp only [e0] at h
    | some d0 =>
      cases d0 with
      | lst as =>
        have h' : WSL C wx kr (sE m (fun d n ds => if as.length < 16777216 then some (.nx, n, ds.set i (some (.lst (as ++ [d])))) else none)) F B n ds H E := h.tr (GoS.refl S.fh) (by simp only [sApp, e0])
        obtain ⟨p, vs, As, O, _⟩ := S.ownL e0 hT
        refine ⟨.ref p, O.sl, .inl ⟨rfl, _, .inl (.inl O.at_)⟩, F, B, n, ds, S, (wsl_e (R := RV C .fz k) S h').mono fun v H1 ⟨F1, n1, d, G1, S1, ⟨A, r1, f⟩, h4⟩ => ?_⟩
        obtain ⟨p', vs', As', O', mutf⟩ := S1.ownL e0 hT
        have hpp : p' = p := by
          have := O'.sl
          rw [O.sl] at this
          cases this; rfl
        subst hpp
        by_cases hl : as.length < 16777216
        · unfold WSL at h4
          simp only [if_pos hl] at h4
          refine ⟨p', vs', v, rfl, rfl, O'.at_, by rw [sizeLine_eq, O'.len]; exact hl, ?_⟩
          obtain ⟨f1, f2⟩ := fresh_ok S f
          classical
          obtain ⟨S3, ho⟩ := mutf (vs' ++ [v]) (as ++ [d]) (fun j => if j = vs'.length then A else if j < vs'.length then As' j else fun _ => False) (by simp [O'.len]) (fun j w d' e1 e2 => by
            by_cases hj : j = vs'.length
            · subst hj
              rw [List.getElem?_concat_length] at e1
              rw [O'.len, List.getElem?_concat_length] at e2
              cases e1; cases e2
              simp only [if_true]
              exact r1
            · have hlt : j < vs'.length := by
                have := (List.getElem?_eq_some_iff.mp e1).1
                rw [List.length_append, List.length_singleton] at this; omega
              rw [List.getElem?_append_left hlt] at e1
              rw [List.getElem?_append_left (by rw [← O'.len]; exact hlt)] at e2
              simp only [if_neg hj, if_pos hlt]
              exact O'.its j w d' e1 e2) (fun j a ha => by
            by_cases hj : j = vs'.length
            · simp only [if_pos hj] at ha
              refine ⟨fun z => ?_, f2 a ha, .inr ⟨(f1 a ha).1, (f1 a ha).2⟩⟩
              subst z; exact (f1 _ ha).1 O'.pB
            · by_cases hlt : j < vs'.length
              · simp only [if_neg hj, if_pos hlt] at ha
                exact ⟨(O'.s j a ha).2.1, (O'.s j a ha).2.2, .inl ⟨j, ha⟩⟩
              · simp only [if_neg hj, if_neg hlt] at ha) (fun j j' a ha ha' => by
            have cross : ∀ j, A a → As' j a → False := fun j z1 z2 => (f1 a z1).1 (O'.s j a z2).1
            by_cases hj : j = vs'.length <;> by_cases hj' : j' = vs'.length
            · rw [hj, hj']
            · simp only [if_pos hj] at ha
              simp only [if_neg hj'] at ha'
              by_cases hlt : j' < vs'.length
              · simp only [if_pos hlt] at ha'; exact (cross j' ha ha').elim
              · simp only [if_neg hlt] at ha'
            · simp only [if_neg hj] at ha
              simp only [if_pos hj'] at ha'
              by_cases hlt : j < vs'.length
              · simp only [if_pos hlt] at ha; exact (cross j ha' ha).elim
              · simp only [if_neg hlt] at ha
            · simp only [if_neg hj] at ha
              simp only [if_neg hj'] at ha'
              by_cases hlt : j < vs'.length
              · by_cases hlt' : j' < vs'.length
                · simp only [if_pos hlt] at ha
                  simp only [if_pos hlt'] at ha'
                  exact O'.dj j j' a ha ha'
                · simp only [if_neg hlt'] at ha'
              · simp only [if_neg hlt] at ha)
          refine h4 σ F1 _ _ (goS_mut S G1 S1 O'.pB ho fun j a ha => ?_) S3
          by_cases hj : j = vs'.length
          · simp only [if_pos hj] at ha
            exact .inr (f a ha).1
          · by_cases hlt : j < vs'.length
            · simp only [if_neg hj, if_pos hlt] at ha
              exact .inl (O'.s j a ha).1
            · simp only [if_neg hj, if_neg hlt] at ha
        · unfold WSL at h4; simp only [if_neg hl] at h4
      | _ => unfold WSL sApp at h; simp only [e0] at h
end
/-! ### a def that stands to be called -/
structure Av (P : Program) (w : World) (K : PySem.W.Frag) (mg : Str → Option Value) (base : Heap) (x : Str) (ps : List Str) (k : Nat) (sp : Sp) : Prop where
  ex : ∃ (f : Addr) (fd : FuncData), mg x = some (.ref f) ∧ PySem.W.keepIn K (.ref f) = true ∧ Binds K fd ps [] ∧ FnOk P w K mg base (L2.CX P w) k f fd ps sp
section
variable {X : Cx} {C : Ctx} {wx : WX} {g : Rg} {k kk kr np : Nat} {x : Str} {p pos : Pos} {e : Expr} {es : List Expr} {ps : List Str} {fm : FM} {ci : Option Nat} {ms : Mo (List D)}
theorem ve_callA (F : Av X.prog X.w X.K X.mg X.base x ps kk (spM C.K ci np kr fm)) (hp : ci = none → ∃ f, fm = pureF f) (hr : Room kk X.A) (tk : Takes X wx)
    (ha : PA X (e :: es) (WAc C wx .fz ci ms)) (hlen : LenM ms np) (hg : Gl X x := by rfl) (hdb : (x == ("__debug__" : Str)) = false := by decide) (he : starEach (e :: es) X.env = (false, eval e X.env) :: starEach es X.env := by rfl) (hpl : (backTo pos (starEach es X.env)).any (·.1) = false := by rfl) :
    PE X (.Call (.Name x p) (e :: es) [] pos) (W C wx .fz kr (mCall fm ms)) := by
  obtain ⟨f, fd, h1, h2, h3, h4⟩ := F.ex
  exact ve_call h4 hp hr h1 h2 h3 tk ha hlen hg hdb he hpl
theorem ve_callAb (F : Av X.prog X.w X.K X.mg X.base x ps kk (spM C.K ci np kr fm)) (hp : ci = none → ∃ f, fm = pureF f) (hr : Room kk X.A) (tk : Takes X wx)
    (ha : PA X (e :: es) (WAc C wx .bo ci ms)) (hlen : LenM ms np) (hg : Gl X x := by rfl) (hdb : (x == ("__debug__" : Str)) = false := by decide) (he : starEach (e :: es) X.env = (false, eval e X.env) :: starEach es X.env := by rfl) (hpl : (backTo pos (starEach es X.env)).any (·.1) = false := by rfl) :
    PE X (.Call (.Name x p) (e :: es) [] pos) (W C wx g k (mFlat (mCall fm ms))) := by
  obtain ⟨f, fd, h1, h2, h3, h4⟩ := F.ex
  exact ve_callb h4 hp hr h1 h2 h3 tk ha hlen hg hdb he hpl
end
/-! ### a def -/
def startD (N : Nat) (as : List D) : DS := as.map some ++ List.replicate (N - as.length) none
def outF : Option (Fl × Int × DS) → Option (Ot D × Int)
  | some (.nx, n, _) => some (.ok .non, n)
  | some (.rt d, n, _) => some (.ok d, n)
  | some (.ex c fs, n, _) => some (.ex c fs, n)
  | _ => none
/-- the plain function of a def without a cell | with the cell at i -/
def fn0 (N : Nat) (ms : MS) : List D → Option (Ot D) := fun as => (outF (ms 0 (startD N as))).map (·.1)
def fnC (i N : Nat) (ms : MS) : FM := fun n as => outF (ms n ((startD N as).set i none))
section
variable {P : Program} {w : World} {K : PySem.W.Frag} {mg : Str → Option Value} {base : Heap}
theorem sim_start {C : Ctx} {F H : Hp} {vs : List V} {as : List D} {N : List Str} {B : AS} {n : Int} {ci : Option Nat} (fh : Same F H) (hl : vs.length = as.length) (hr : ∀ (i : Nat) v d, ci ≠ some i → vs[i]? = some v → as[i]? = some d → Rp C.K F H 0 v d (fun _ => False)) (hT : ∀ i, i < vs.length → C.T i = 0)
    (hb : ∀ a, B a → F a = none ∧ ∃ o, H a = some o ∧ Mk o = true) (hc : ∀ q, C.q = some q → B q ∧ H q = some (.lst [.int n])) (hp : ∀ i v, C.pn i = some v → ci = some i ∧ vs[i]? = some v) : Sim C F B (start N vs) H n (match ci with | none => startD N.length as | some i => (startD N.length as).set i none) := by
  have hs : ∀ (i : Nat) d, (startD N.length as)[i]? = some (some d) → as[i]? = some d := fun i d e => by
    unfold startD at e
    by_cases h : i < as.length
    · rw [List.getElem?_append_left (by simpa using h), List.getElem?_map] at e
      cases h2 : as[i]? with
      | none => rw [h2] at e; cases e
      | some x => rw [h2] at e; cases e; rfl
    · rw [List.getElem?_append_right (by simpa using h), List.getElem?_replicate] at e
      split at e <;> cases e
  have hv : ∀ (i : Nat) v, vs[i]? = some v → (start N vs)[i]? = some (some v) := fun i v e => by
    unfold L2.start
    have h := (List.getElem?_eq_some_iff.mp e).1
    rw [List.getElem?_append_left (by simpa using h), List.getElem?_map, e]; rfl
  have lens : (start N vs).length = (startD N.length as).length := by
    unfold L2.start startD
    rw [List.length_append, List.length_append, List.length_map, List.length_map, List.length_replicate, List.length_replicate, hl]
  refine ⟨fh, hb, hc, fun i v h => hv i v (hp i v h).2, ?_, fun _ _ => False, fun i d e => ?_, fun _ _ h => h.elim, fun _ _ _ h => h.elim⟩
  · cases ci with
    | none => exact lens
    | some i => show _ = ((startD N.length as).set i none).length; rw [List.length_set]; exact lens
  · have key : ci ≠ some i ∧ (startD N.length as)[i]? = some (some d) := by
      cases ci with
      | none => exact ⟨by simp, e⟩
      | some j =>
        have e : ((startD N.length as).set j none)[i]? = some (some d) := e
        by_cases hj : j = i
        · subst hj
          by_cases hlt : j < (startD N.length as).length
          · rw [List.getElem?_set_self hlt] at e; cases e
          · rw [List.getElem?_eq_none (by simpa using hlt)] at e; cases e
        · rw [List.getElem?_set_ne hj] at e
          exact ⟨by simpa using hj, e⟩
    have h1 := hs i d key.2
    have hlt := (List.getElem?_eq_some_iff.mp h1).1
    have h2 : vs[i]? = some (vs[i]'(by omega)) := by simp [hl, hlt]
    refine ⟨_, hv i _ h2, ?_⟩
    rw [hT i (by omega)]
    exact hr i _ d key.1 h2 h1
theorem def_ok0 {x qual : Str} {params : Arguments} {body : List Stmt} {scope : Scope} {dvs : List V} {kws : List (Str × V)} {f : Addr} {fd : FuncData} {N ps : List Str} {k kr : Nat} {T : Nat → Nat} {ms : MS} (Fu : FunD K x qual params body scope dvs kws f fd) (S : FnScope N ps scope) (hT : ∀ i, i < ps.length → T i = 0)
    (hb : ∀ (cdv : Value) (A : Around) (outer : List Env) (s : Shared) (H : Hp) (E : XK), Room k (A.deeper (envOfC qual scope s.heap.objs.size f cdv)) →
      PSs (cxOf (L2.CX P w) P w K mg base N qual scope f cdv A outer s H E) body (WS ⟨K, none, T, fun _ => none⟩ (fun c d _ H => E c d H) kr ms)) :
    FnOk P w K mg base (L2.CX P w) (k + 1) f fd ps (spM K none ps.length kr (pureF (fn0 N.length ms))) := by
  refine Fu.ok S (fun vs H Q E h => h.1) (fun cdv A outer s H vs Q E hr h => ⟨_, hb cdv A outer s H E hr, ?_⟩)
  obtain ⟨hlen, F, q, n, as, fh, hq, _, hl, hrep, hm⟩ := h
  have hq := hq rfl
  subst hq
  refine ⟨F, fun _ => False, 0, startD N.length as, sim_start (ci := none) fh hl hrep (fun i hi => hT i (by rw [← hlen]; exact hi)) (fun _ h => h.elim) (fun _ h => by cases h) (fun _ _ h => by cases h), ?_⟩
  have go : ∀ {B' : AS} {F' H' : Hp}, GoS (fun _ => False) F H B' F' H' → GoC none F H F' H' := fun G => ⟨⟨G.ff, G.fh, fun a o e _ => G.hh a o e fun z => z, G.ht, fun a o n e => G.nf a o n e fun z => z⟩, G.dm⟩
  unfold pureF fn0 at hm
  unfold WSL
  cases e : ms 0 (startD N.length as) with
  | none => simp only [e, outF, Option.map_none] at hm
  | some pp =>
    obtain ⟨fl, n', ds'⟩ := pp
    cases fl with
    | nx =>
      simp only [e, outF, Option.map_some] at hm
      exact fun σ' F' B' H' G _ => hm .non F' H' (go G) (fun _ h => by cases h) ⟨fun _ => False, .non, Fr.no⟩
    | bk => simp only [e, outF, Option.map_none] at hm
    | ct => simp only [e, outF, Option.map_none] at hm
    | rt d =>
      simp only [e, outF, Option.map_some] at hm
      exact fun v B' F' H' A G _ r f => hm v F' H' (go G) (fun _ h => by cases h) ⟨A, r, fun a ha => ⟨(f a ha).1.elim (fun z => z.elim) id, (f a ha).2.1, (f a ha).2.2.2⟩⟩
    | ex c fs =>
      simp only [e, outF, Option.map_some] at hm
      exact fun σ' F' B' H' od G _ xr => hm F' H' od (go G) (fun _ h => by cases h) xr
theorem def_okC {x qual : Str} {params : Arguments} {body : List Stmt} {scope : Scope} {dvs : List V} {kws : List (Str × V)} {f : Addr} {fd : FuncData} {N ps : List Str} {k kr : Nat} {T : Nat → Nat} {ms : MS} (i : Nat) (hi : i < ps.length) (Fu : FunD K x qual params body scope dvs kws f fd) (S : FnScope N ps scope) (hT : ∀ i, i < ps.length → T i = 0)
    (hb : ∀ (cdv : Value) (A : Around) (outer : List Env) (s : Shared) (H : Hp) (E : XK) (a : Addr), Room k (A.deeper (envOfC qual scope s.heap.objs.size f cdv)) →
      PSs (cxOf (L2.CX P w) P w K mg base N qual scope f cdv A outer s H E) body (WS ⟨K, some a, T, fun j => if j = i then some (.ref a) else none⟩ (fun c d _ H => E c d H) kr ms)) :
    FnOk P w K mg base (L2.CX P w) (k + 1) f fd ps (spM K (some i) ps.length kr (fnC i N.length ms)) := by
  refine Fu.ok S (fun vs H Q E h => h.1) (fun cdv A outer s H vs Q E hr h => ?_)
  obtain ⟨hlen, F, q, n, as, fh, _, hq, hl, hrep, hm⟩ := h
  obtain ⟨a, rfl, hva, hHa, hFa⟩ := hq i rfl
  refine ⟨_, hb cdv A outer s H E a hr, F, fun b => b = a, n, (startD N.length as).set i none, sim_start (ci := some i) fh hl hrep (fun i hi => hT i (by rw [← hlen]; exact hi)) (fun b hb => by subst hb; exact ⟨hFa, _, hHa, rfl⟩) (fun q hq => by cases hq; exact ⟨rfl, hHa⟩) (fun j v h => by
    by_cases hj : j = i
    · subst hj
      simp only [if_true, Option.some.injEq] at h
      subst h
      exact ⟨rfl, hva⟩
    · simp only [if_neg hj] at h; cases h), ?_⟩
  have go : ∀ {B' : AS} {F' H' : Hp}, GoS (fun b => b = a) F H B' F' H' → F' a = none → GoC (some a) F H F' H' := fun G hF' => ⟨⟨G.ff, G.fh, fun b o e hne => G.hh b o e fun z => hne (by rw [z]), G.ht, fun b o n e => by
    by_cases hba : b = a
    · rw [hba]; exact hF'
    · exact G.nf b o n e hba⟩, G.dm⟩
  unfold fnC at hm
  unfold WSL
  cases e : ms n ((startD N.length as).set i none) with
  | none => simp only [e, outF] at hm
  | some pp =>
    obtain ⟨fl, n', ds'⟩ := pp
    cases fl with
    | nx =>
      simp only [e, outF] at hm
      exact fun σ' F' B' H' G S' => hm .non F' H' (go G (S'.bok a (S'.cell a rfl).1).1) (fun q h => by cases h; exact (S'.cell a rfl).2) ⟨fun _ => False, .non, Fr.no⟩
    | bk => simp only [e, outF] at hm
    | ct => simp only [e, outF] at hm
    | rt d =>
      simp only [e, outF] at hm
      exact fun v B' F' H' A G hc r f => hm v F' H' (go G (hc a rfl).2) (fun q h => by cases h; exact (hc a rfl).1) ⟨A, r, fun b ha => ⟨(f b ha).1.elim (fun z => by
        exact absurd (by rw [z]) (f b ha).2.2.1) id, (f b ha).2.1, (f b ha).2.2.2⟩⟩
    | ex c fs =>
      simp only [e, outF] at hm
      exact fun σ' F' B' H' od G S' xr => hm F' H' od (go G (S'.bok a (S'.cell a rfl).1).1) (fun q h => by cases h; exact (S'.cell a rfl).2) xr
end
end GW

namespace GW
open PySem L2 PyProof.Rows
section
variable {X : Cx} {C : Ctx} {wx : WX} {kr k : Nat} {g : Rg} {a b e : Expr} {pos : Pos} {m : M}
/-! ### the counting cell -/
def mCell : M := fun n _ => some (.ok (.int n), n)
theorem ve_cell {i : Nat} (h : PE X a (tVar i)) (hq : ∃ q, C.q = some q ∧ C.pn i = some (.ref q)) (hb : PE X b (tC (.int 0))) (hs : PlainIx b := by intro _ _; rfl) (hK : X.K = C.K := by rfl) : PE X (.Subscript a b pos) (W C wx g k mCell) := by
  refine (pe_ix (r := rIxL C.K) (by rw [← hK]; exact ix_list) h hb hs).wk fun σ H Q w => ?_
  obtain ⟨F, B, n, ds, S, h⟩ := w
  obtain ⟨q, hq1, hq2⟩ := hq
  have hh : ∀ v F' H', GoC C.q F H F' H' → Sim C F' B σ H' n ds → RV C g k H F' H' v (.int n) → Q v H' := h
  exact ⟨_, S.pin i _ hq2, q, [.int n], 0, .int n, rfl, rfl, .inl (.inl (S.cell q hq1).2), rfl, hh _ F H (GoC.refl S.fh) S ⟨fun _ => False, .int, Fr.no⟩⟩
def sCell (m : M) : MS := sE m fun d n ds => match d with
  | .int i => some (.nx, i, ds)
  | _ => none
theorem ws_cell {i : Nat} {p2 : Pos} (he : PE X e (W C wx .bo 0 m)) (h : PE X a (tVar i)) (hq : ∃ q, C.q = some q ∧ C.pn i = some (.ref q)) (hb : PE X b (tC (.int 0)))
    (ha : ∀ v, assign (.Subscript a b p2) X.env v = (do
      let ov ← holding [v] (eval a X.env)
      let iv ← holding [v, ov] (eval b X.env)
      standAt p2
      holding [v, ov, iv] (setItem ov iv v)
      release [v, ov, iv] []) := by intro _; rfl) (hs : swapsWithSole [.Subscript a b p2] e pos.line X.env = pure false := by rfl) (hw : swappedStores [.Subscript a b p2] e X.env = pure none := by rfl) (h1 : (assignEach [.Subscript a b p2] X.env).map (·.2) = [assign (.Subscript a b p2) X.env] := by rfl) :
    PS X (.Assign [.Subscript a b p2] e pos) (WS C wx kr (sCell m)) := (ps_asg he (pg_sub h hb set_list ha) hs hw h1).wk fun E σ H w => by
  obtain ⟨F, B, n, ds, S, h⟩ := w
  obtain ⟨q, hq1, hq2⟩ := hq
  refine ⟨F, B, n, ds, S, (wsl_e (R := RV C .bo 0) S h).mono fun v H1 ⟨F1, n1, d, G1, S1, ⟨A, r1, f⟩, h4⟩ => ?_⟩
  cases d with
  | int j =>
    have ev := r1.int_
    subst ev
    obtain ⟨qB, hc⟩ := S1.cell q hq1
    refine ⟨_, S1.pin i _ hq2, q, [.int n1], 0, 0, rfl, rfl, hc, rfl, ?_⟩
    have hne : ∀ x o, F1 x = some o → x ≠ q := fun x o e z => by rw [z, (S1.bok q qB).1] at e; cases e
    refine h4 σ F1 B _ ((G1.toS S.qB).trans ⟨Same.refl _, fun x o e => by rw [upd_ne (hne x o e)]; exact S1.fh x o e, fun x o e nb => by rw [upd_ne (fun z => nb (by rw [z]; exact qB))]; exact e, fun x o e hm => by
      have : x ≠ q := fun z => by rw [z, hc] at e; cases e; cases hm
      rw [upd_ne this]; exact e, fun x o n _ _ => n, fun _ h => .inl h, fun x o e => by
      by_cases hx : x = q
      · exact ⟨_, by rw [hx]; exact upd_same⟩
      · exact ⟨o, by rw [upd_ne hx]; exact e⟩⟩) ?_
    refine ⟨fun x o e => by rw [upd_ne (hne x o e)]; exact S1.fh x o e, fun x hx => ?_, fun q' hq' => ?_, S1.pin, S1.len, ?_⟩
    · obtain ⟨z1, o, z2, z3⟩ := S1.bok x hx
      by_cases hxq : x = q
      · exact ⟨z1, _, by rw [hxq]; exact upd_same, rfl⟩
      · exact ⟨z1, o, by rw [upd_ne hxq]; exact z2, z3⟩
    · rw [hq1] at hq'
      cases hq'
      exact ⟨qB, upd_same⟩
    · obtain ⟨A0, h1, h2, h3⟩ := S1.rep
      refine ⟨A0, fun j d e => ?_, h2, h3⟩
      obtain ⟨w, e1, r⟩ := h1 j d e
      refine ⟨w, e1, r.mono (Same.refl _) (fun x o e hm => ?_) fun x o hx e => ?_⟩
      · have : x ≠ q := fun z => by rw [z, hc] at e; cases e; cases hm
        rw [upd_ne this]; exact e
      · have : x ≠ q := fun z => (h2 j x hx).2 (by rw [hq1, z])
        rw [upd_ne this]; exact e
  | _ => exact h4.elim
/-! ### zip of two lists, of two tuples -/
def zipD : List D → List D → List D
  | a :: as, b :: bs => .tup [a, b] :: zipD as bs
  | _, _ => []
def oZip : List D → Option (List D)
  | [.lst xs, .lst ys] => some (zipD xs ys)
  | [.tup xs, .tup ys] => some (zipD xs ys)
  | _ => none
def mZip (ms : Mo (List D)) : Mo (List D) := mb ms fun ds => ret (oZip ds)
theorem zipD_get : ∀ {xs ys : List D} {i : Nat} {d : D}, (zipD xs ys)[i]? = some d → ∃ a b, xs[i]? = some a ∧ ys[i]? = some b ∧ d = .tup [a, b]
  | [], _, i, d, h => by simp [zipD] at h
  | _ :: _, [], i, d, h => by simp [zipD] at h
  | a :: as, b :: bs, 0, d, h => by simp [zipD] at h; exact ⟨a, b, rfl, rfl, h.symm⟩
  | a :: as, b :: bs, i + 1, d, h => by
    obtain ⟨x, y, h1, h2, h3⟩ := zipD_get (xs := as) (ys := bs) (i := i) (by simpa [zipD] using h)
    exact ⟨x, y, by simpa using h1, by simpa using h2, h3⟩
theorem zipD_none : ∀ {xs ys : List D} {i : Nat}, (zipD xs ys)[i]? = none → xs.length ≤ i ∨ ys.length ≤ i
  | [], _, i, h => .inl (Nat.zero_le _)
  | _ :: _, [], i, h => .inr (Nat.zero_le _)
  | a :: as, b :: bs, 0, h => by simp [zipD] at h
  | a :: as, b :: bs, i + 1, h => by
    have := zipD_none (xs := as) (ys := bs) (i := i) (by simpa [zipD] using h)
    simp only [List.length_cons]; omega
theorem get_of {α β : Type} {xs : List α} {ys : List β} (l : xs.length = ys.length) {i : Nat} {y : β} (h : ys[i]? = some y) : ∃ x, xs[i]? = some x := by
  have := (List.getElem?_eq_some_iff.mp h).1
  exact ⟨xs[i]'(by omega), by simp [l, this]⟩
theorem vi_zip {ea eb : Expr} {elts : List Expr} {kk : Nat} {p tpos : Pos} {ms : Mo (List D)} (hm : X.mg "zip" = none) (ha : PA X [ea, eb] (WA C wx .fz ms)) (hg : Gl X "zip" := by rfl)
    (hs : starEach [ea, eb] X.env = (false, eval ea X.env) :: starEach [eb] X.env := by rfl) (hpl : (backTo pos (starEach [eb] X.env)).any (·.1) = false := by rfl) (hlen : LenM ms 2 := by exact LenM.cons (LenM.cons LenM.nil)) (hK : X.K = C.K := by rfl) :
    PI X (.Tuple elts kk tpos) (.Call (.Name "zip" p) [ea, eb] [] pos) (WI C wx (mZip ms)) := (RZ.pi_zipA hg hm ha hs hpl).wk fun σ H Q w => by
  obtain ⟨F, B, n, ds, S, h⟩ := w
  refine ⟨F, B, n, ds, S, WL.strong hlen ((h.bind (R := fun H F' H' vs as => RA C .fz H F' H' vs as ∧ as.length = 2) fun F1 H1 F2 H2 v d G r => r).mono fun vs H1 ⟨F1, n1, as, G1, S1, ⟨r1, hl⟩, h1⟩ => ?_)⟩
  obtain ⟨is, e, q⟩ := h1.retE
  rw [hK]
  match as, hl with
  | [d, d'], _ =>
    obtain ⟨v, v', rfl, r, r'⟩ := RpL.two r1
    unfold oZip at e
    split at e
    · rename_i xs ys hxy
      cases hxy
      cases e
      cases r with
      | @lst _ p1 vs1 _ hh1 l1 c1 =>
        cases r' with
        | @lst _ p2 vs2 _ hh2 l2 c2 =>
          refine ⟨p1, p2, vs1, vs2, rfl, .inl ⟨sqL_mono hh1 S1.fh, sqL_mono hh2 S1.fh, q _ F1 H1 (GoC.refl S1.fh) S1 fun F' H' L i => ?_⟩⟩
          have q1 : SqL C.K H' p1 vs1 := sqL_mono hh1 (L.ff.trans L.fh)
          have q2 : SqL C.K H' p2 vs2 := sqL_mono hh2 (L.ff.trans L.fh)
          refine ⟨fun d hd => ?_, fun hn => ?_⟩
          · obtain ⟨x, y, g1, g2, rfl⟩ := zipD_get hd
            obtain ⟨w1, hw1⟩ := get_of l1 g1
            obtain ⟨w2, hw2⟩ := get_of l2 g2
            refine ⟨⟨vs1, vs2, w1, w2, q1, q2, hw1, hw2⟩, fun x2 H'' y2 => ?_⟩
            obtain ⟨T, z1, z2, e1, e2, e3, e4, e5⟩ := y2
            subst e1 e3
            have e4 := e4 vs1 q1
            have e5 := e5 vs2 q2
            rw [hw1] at e4
            rw [hw2] at e5
            cases e4; cases e5
            have hu : ∀ a o, H' a = some o → upd H' T (.tup [w1, w2]) a = some o := fun a o e => by rw [upd_ne (ne_of_none e e2)]; exact e
            refine ⟨.inr ⟨T, _, e2, rfl⟩, .tup (.inl (.inl upd_same)) rfl (RpL.cons (A := fun _ => False) ((Rp.z (c1 i w1 x hw1 g1)).mono L.ff (fun a o e h => hu a o (L.ht a o e h)) fun _ _ h => h.elim) (RpL.cons (A := fun _ => False) ((Rp.z (c2 i w2 y hw2 g2)).mono L.ff (fun a o e h => hu a o (L.ht a o e h)) fun _ _ h => h.elim) RpL.nil)).2⟩
          · have := zipD_none hn
            exact ⟨vs1, vs2, q1, q2, by omega⟩
    · rename_i xs ys hxy
      cases hxy
      cases e
      cases r with
      | @tup _ _ p1 vs1 _ hh1 l1 c1 =>
        cases r' with
        | @tup _ _ p2 vs2 _ hh2 l2 c2 =>
          refine ⟨p1, p2, vs1, vs2, rfl, .inr ⟨hh1, hh2, q _ F1 H1 (GoC.refl S1.fh) S1 fun F' H' L i => ?_⟩⟩
          have q1 : SqT C.K H' p1 vs1 := sqT_mono hh1 L.ht
          have q2 : SqT C.K H' p2 vs2 := sqT_mono hh2 L.ht
          refine ⟨fun d hd => ?_, fun hn => ?_⟩
          · obtain ⟨x, y, g1, g2, rfl⟩ := zipD_get hd
            obtain ⟨w1, hw1⟩ := get_of l1 g1
            obtain ⟨w2, hw2⟩ := get_of l2 g2
            refine ⟨⟨vs1, vs2, w1, w2, q1, q2, hw1, hw2⟩, fun x2 H'' y2 => ?_⟩
            obtain ⟨T, z1, z2, e1, e2, e3, e4, e5⟩ := y2
            subst e1 e3
            have e4 := e4 vs1 q1
            have e5 := e5 vs2 q2
            rw [hw1] at e4
            rw [hw2] at e5
            cases e4; cases e5
            have hu : ∀ a o, H' a = some o → upd H' T (.tup [w1, w2]) a = some o := fun a o e => by rw [upd_ne (ne_of_none e e2)]; exact e
            refine ⟨.inr ⟨T, _, e2, rfl⟩, .tup (.inl (.inl upd_same)) rfl (RpL.cons (A := fun _ => False) ((Rp.z (c1 i w1 x hw1 g1)).mono L.ff (fun a o e h => hu a o (L.ht a o e h)) fun _ _ h => h.elim) (RpL.cons (A := fun _ => False) ((Rp.z (c2 i w2 y hw2 g2)).mono L.ff (fun a o e h => hu a o (L.ht a o e h)) fun _ _ h => h.elim) RpL.nil)).2⟩
          · have := zipD_none hn
            exact ⟨vs1, vs2, q1, q2, by omega⟩
    · cases e
end
end GW

namespace GW
open PySem L2 PyProof.Rows
/-! ### the cell is made -/
def Ctx.cellAt (C : Ctx) (i : Nat) (a : Addr) : Ctx := ⟨C.K, some a, C.T, fun j => if j = i then some (.ref a) else none⟩
def sNewCell (i : Nat) (c : Int) (m : MS) : MS := fun n ds => if i < ds.length then (match m c (ds.set i none) with
  | some (.nx, _, ds') => some (.nx, n, ds')
  | some (.rt d, _, ds') => some (.rt d, n, ds')
  | some (.ex c fs, _, ds') => some (.ex c fs, n, ds')
  | _ => none) else none
section
variable {X : Cx} {C : Ctx} {wx : WX} {kr k : Nat} {e : Expr} {pos : Pos} {m : MS}
theorem Sim.uncell {F H : Hp} {B : AS} {σ : L2.St} {n n0 : Int} {ds : DS} {i : Nat} {a : Addr} (S : Sim (C.cellAt i a) F B σ H n ds) (hq : C.q = none) (hp : ∀ j, C.pn j = none) : Sim C F B σ H n0 ds :=
  ⟨S.fh, S.bok, fun q h => (by rw [hq] at h; cases h), fun j v h => (by rw [hp j] at h; cases h), S.len, by
    obtain ⟨A, h1, h2, h3⟩ := S.rep
    exact ⟨A, h1, fun j a ha => ⟨(h2 j a ha).1, by rw [hq]; simp⟩, h3⟩⟩
theorem ws_newCell {i : Nat} {x : Str} {p' lpos : Pos} {j : Nat} {c : Int} {cp : Pos} {sts : List Stmt} (hq : C.q = none) (hp : ∀ j, C.pn j = none) (hN : X.N.Nodup) (hr : ∀ a, PSs X sts (WS (C.cellAt i a) wx kr m)) (hi : X.N[i]? = some x := by rfl) (hx : Loc X.env.scope x := by first | exact Or.inl rfl | exact Or.inr rfl)
    (hs : swapsWith (.List [.Constant (.int c) j cp] lpos) (some (.Name x p')) pos.line X.env = pure false := by rfl) (hf : X.fn x = true ∨ X.env.scope.names.lookup x = some .local := by first | exact .inl rfl | exact .inr rfl | assumption)
    (hst : starEach [.Constant (.int c) j cp] X.env = (false, eval (.Constant (.int c) j cp) X.env) :: starEach [] X.env := by rfl) :
    PSs X (.Assign [.Name x p'] (.List [.Constant (.int c) j cp] lpos) pos :: sts) (WS C wx kr (sNewCell i c m)) := by
  have hall : PSs X sts (fun E σ H => ∃ a, WS (C.cellAt i a) wx kr m E σ H) := ⟨fun pins s σ H E I h => by
    obtain ⟨a, h⟩ := h
    exact (hr a).run pins s σ H E I h⟩
  refine (pss_cons (ps_set hN hi hx (pe_lst (pa_cons pe_int pa_nil hst)) hs hf) hall).wk fun E σ H w => ?_
  obtain ⟨F, B, n, ds, S, h⟩ := w
  have hlt : i < ds.length := by
    by_cases hl : i < ds.length
    · exact hl
    · unfold WSL sNewCell at h; simp only [if_neg hl] at h
  refine ⟨by show 1 ≤ sizeLine; decide, fun p hpn => ⟨p, F, fun a => B a ∨ a = p, c, ds.set i none, ?_, ?_⟩⟩
  · have hFp : F p = none := none_some (fun a o e => ⟨o, S.fh a o e⟩) hpn
    have hup : ∀ a o, H a = some o → upd H p (.lst [.int c]) a = some o := fun a o e => by rw [upd_ne (ne_of_none e hpn)]; exact e
    refine ⟨fun a o e => hup a o (S.fh a o e), fun a ha => ?_, fun q e => ?_, fun j' v h' => ?_, ?_, ?_⟩
    · rcases ha with ha | ha
      · obtain ⟨z1, o, z2, z3⟩ := S.bok a ha
        exact ⟨z1, o, hup a o z2, z3⟩
      · subst ha; exact ⟨hFp, _, upd_same, rfl⟩
    · cases e
      exact ⟨.inr rfl, upd_same⟩
    · have h' : (if j' = i then some (V.ref p) else none) = some v := h'
      by_cases hj : j' = i
      · subst hj
        rw [if_pos rfl] at h'
        cases h'
        refine List.getElem?_set_self ?_
        rw [S.len]; exact hlt
      · rw [if_neg hj] at h'; cases h'
    · rw [List.length_set, List.length_set]; exact S.len
    · obtain ⟨A, h1, h2, h3⟩ := S.rep
      refine ⟨A, fun j' d e => ?_, fun j' a ha => ⟨.inl (h2 j' a ha).1, fun z => ?_⟩, h3⟩
      · by_cases hj : i = j'
        · subst hj
          by_cases hl : i < ds.length
          · rw [List.getElem?_set_self hl] at e; cases e
          · rw [List.getElem?_eq_none (by simpa using hl)] at e; cases e
        · rw [List.getElem?_set_ne hj] at e
          obtain ⟨v, e1, r⟩ := h1 j' d e
          exact ⟨v, by rw [List.getElem?_set_ne hj]; exact e1, r.mono (Same.refl _) (fun a o e _ => hup a o e) fun a o _ e => hup a o e⟩
      · cases z
        obtain ⟨_, o, z2, _⟩ := S.bok p (h2 j' p ha).1
        rw [hpn] at z2; cases z2
  · have G : GoS B F H (fun a => B a ∨ a = p) F (upd H p (.lst [.int c])) := by
      have g := (GoC.newO (q := none) (o := .lst [.int c]) S.fh hpn).toS (B := B) (fun _ h => by cases h)
      exact ⟨g.ff, g.fh, g.hh, g.ht, g.nf, fun a ha => ha.elim .inl fun z => .inr (by rw [z]; exact hpn), g.dm⟩
    unfold WSL sNewCell at h
    simp only [if_pos hlt] at h
    unfold WSL
    cases e : m c (ds.set i none) with
    | none => simp only [e] at h
    | some pp =>
      obtain ⟨fl, n', ds'⟩ := pp
      cases fl with
      | nx => simp only [e] at h; exact fun σ' F' B' H' G2 S2 => h σ' F' B' H' (G.trans G2) (S2.uncell hq hp)
      | bk => simp only [e] at h
      | ct => simp only [e] at h
      | rt d =>
        simp only [e] at h
        exact RtP.tr G (fun v B' F' H' A G2 _ r f => h v B' F' H' A G2 (fun q z => by rw [hq] at z; cases z) r fun a ha => ⟨(f a ha).1, (f a ha).2.1, by rw [hq]; simp, (f a ha).2.2.2⟩)
      | ex c fs => simp only [e] at h; exact fun σ' F' B' H' od G2 S2 x => h σ' F' B' H' od (G.trans G2) (S2.uncell hq hp) x
end
end GW

/-! the plain functions, reckoned -/
namespace GW
open PySem L2 PyProof.Rows
theorem iop_addIS {X : Cx} : OpR X (inplaceOp .Add) rAddIS := iop_add.or iop_add_str
section
variable {α β : Type} {n n1 : Int} {ds : DS}
@[simp] theorem ev_mb {m : Mo α} {f : α → Mo β} : mb m f n ds = match m n ds with
  | none => none
  | some (.ex C fs, n1) => some (.ex C fs, n1)
  | some (.ok a, n1) => f a n1 ds := (rfl)
@[simp] theorem ev_ret {a : α} : ret (some a) n ds = some (.ok a, n) := (rfl)
@[simp] theorem ev_var {i : Nat} : mVar i n ds = match ds[i]? with | some (some d) => some (.ok d, n) | _ => none := (rfl)
@[simp] theorem ev_C {d : D} : mC d n ds = some (.ok d, n) := (rfl)
@[simp] theorem ev_m2 {a b : M} {o : D → D → Option D} : m2 a b o n ds = mb a (fun x => mb b fun y => ret (o x y)) n ds := (rfl)
@[simp] theorem ev_m1 {a : M} {o : D → Option D} : m1 a o n ds = mb a (fun x => ret (o x)) n ds := (rfl)
@[simp] theorem ev_test {m : M} : mTest m n ds = mb m (fun d => ret (match d with | .bl b => some b | _ => none)) n ds := (rfl)
@[simp] theorem ev_not {t : Mo Bool} : mNot t n ds = mb t (fun b => ret (some (!b))) n ds := (rfl)
@[simp] theorem ev_and {t u : Mo Bool} : mAnd t u n ds = mb t (fun b => match b with | true => u | false => ret (some false)) n ds := (rfl)
@[simp] theorem ev_or {t u : Mo Bool} : mOr t u n ds = mb t (fun b => match b with | true => ret (some true) | false => u) n ds := (rfl)
@[simp] theorem ev_andV {a b : M} : mAndV a b n ds = mb a (fun d => match d with | .bl true => b | .bl false => ret (some (.bl false)) | _ => ret none) n ds := (rfl)
@[simp] theorem ev_orV {a b : M} : mOrV a b n ds = mb a (fun d => match d with | .bl true => ret (some (.bl true)) | .bl false => b | _ => ret none) n ds := (rfl)
@[simp] theorem ev_if {t : Mo Bool} {a b : M} : mIf t a b n ds = mb t (fun c => match c with | true => a | false => b) n ds := (rfl)
@[simp] theorem ev_tru {m : M} : mTru m n ds = mb m (fun d => ret (oTru d)) n ds := (rfl)
@[simp] theorem ev_cons {m : M} {ms : Mo (List D)} : mCons m ms n ds = mb m (fun d => mb ms fun ds => ret (some (d :: ds))) n ds := (rfl)
@[simp] theorem ev_cb {ms : Mo (List D)} {o : List D → Option D} : mCB ms o n ds = mb ms (fun ds => ret (o ds)) n ds := (rfl)
@[simp] theorem ev_call {fm : FM} {ms : Mo (List D)} : mCall fm ms n ds = mb ms (fun as => fun n _ => fm n as) n ds := (rfl)
@[simp] theorem ev_pure {f : List D → Option (Ot D)} {as : List D} : pureF f n as = (f as).map fun o => (o, n) := (rfl)
@[simp] theorem ev_flat {m : M} : mFlat m n ds = mb m (fun d => ret (if flat d = true then some d else none)) n ds := (rfl)
@[simp] theorem ev_cell : mCell n ds = some (.ok (.int n), n) := (rfl)
@[simp] theorem ev_lenN : ∀ {as : List D}, as.length ≤ 16777216 → (if as.length ≤ 16777216 then some as else none) = some as := fun h => if_pos h
@[simp] theorem ev_tup {ms : Mo (List D)} : mTup ms n ds = mb ms (fun ds => ret (if ds.length ≤ 16777216 then some (.tup ds) else none)) n ds := (rfl)
@[simp] theorem ev_lst {ms : Mo (List D)} : mLst ms n ds = mb ms (fun ds => ret (if ds.length ≤ 16777216 then some (.lst ds) else none)) n ds := (rfl)
@[simp] theorem ev_noPart : mNoPart n ds = some (.ok none, n) := (rfl)
@[simp] theorem ev_part {m : M} : mPart m n ds = mb m (fun d => ret (match d with | .int i => some (some i) | _ => none)) n ds := (rfl)
@[simp] theorem ev_sl {m : M} {a b : Mo (Option Int)} : mSl m a b n ds = mb m (fun d => mb a fun lo => mb b fun hi => ret (oSl lo hi d)) n ds := (rfl)
@[simp] theorem ev_3c {ma mc md : M} {o o' : D → D → Option D} : m3c ma mc md o o' n ds = mb ma (fun x => mb mc fun y => mb (ret (o x y)) fun z => match z with | .bl true => mb md fun w => ret (o' y w) | .bl false => ret (some (.bl false)) | _ => ret none) n ds := (rfl)
@[simp] theorem ev_itl {m : M} : mItL m n ds = mb m (fun d => ret (match d with | .lst ds => some ds | _ => none)) n ds := (rfl)
@[simp] theorem ev_itt {m : M} : mItT m n ds = mb m (fun d => ret (match d with | .tup ds => some ds | _ => none)) n ds := (rfl)
@[simp] theorem ev_its {m : M} : mItS m n ds = mb m (fun d => ret (match d with | .str x => some (signsD x) | _ => none)) n ds := (rfl)
@[simp] theorem ev_rng {ms : Mo (List D)} : mRng ms n ds = mb ms (fun ds => ret (oRng ds)) n ds := (rfl)
@[simp] theorem ev_zip {ms : Mo (List D)} : mZip ms n ds = mb ms (fun ds => ret (oZip ds)) n ds := (rfl)
@[simp] theorem ev_yes : mYes n ds = some (.ok true, n) := (rfl)
-- operators
@[simp] theorem ov_add {i j : Int} : oAdd (.int i) (.int j) = some (.int (i + j)) := (rfl)
@[simp] theorem ov_sub {i j : Int} : oSub (.int i) (.int j) = some (.int (i - j)) := (rfl)
@[simp] theorem ov_mul {i j : Int} : oMul (.int i) (.int j) = if mulOk i j = true then some (.int (i * j)) else none := (rfl)
@[simp] theorem ov_div {i j : Int} : oDiv (.int i) (.int j) = if divOk j = true then some (.int (i / j)) else none := (rfl)
@[simp] theorem ov_mod {i j : Int} : oMod (.int i) (.int j) = if 0 < j then some (.int (i % j)) else none := (rfl)
@[simp] theorem ov_neg {i : Int} : oNeg (.int i) = some (.int (-i)) := (rfl)
@[simp] theorem ov_lt {i j : Int} : oLt (.int i) (.int j) = some (.bl (decide (i < j))) := (rfl)
@[simp] theorem ov_le {i j : Int} : oLe (.int i) (.int j) = some (.bl (decide (i ≤ j))) := (rfl)
@[simp] theorem ov_gt {i j : Int} : oGt (.int i) (.int j) = some (.bl (decide (j < i))) := (rfl)
@[simp] theorem ov_ge {i j : Int} : oGe (.int i) (.int j) = some (.bl (decide (j ≤ i))) := (rfl)
@[simp] theorem ov_eqI {i j : Int} : oEq (.int i) (.int j) = some (.bl (decide (i = j))) := by
  show (if scal (V.int i) (V.int j) = true then some (D.bl (decide (V.int i = V.int j))) else none) = _
  rw [if_pos (by rfl)]
  congr 2
  simp
@[simp] theorem ov_neI {i j : Int} : oNe (.int i) (.int j) = some (.bl (!decide (i = j))) := by
  show (if scal (V.int i) (V.int j) = true then some (D.bl (!decide (V.int i = V.int j))) else none) = _
  rw [if_pos (by rfl)]
  congr 2
  simp
@[simp] theorem ov_eqB {i j : Bool} : oEq (.bl i) (.bl j) = some (.bl (decide (i = j))) := by
  show (if scal (V.bl i) (V.bl j) = true then some (D.bl (decide (V.bl i = V.bl j))) else none) = _
  rw [if_pos (by rfl)]
  congr 2
  simp
@[simp] theorem ov_neB {i j : Bool} : oNe (.bl i) (.bl j) = some (.bl (!decide (i = j))) := by
  show (if scal (V.bl i) (V.bl j) = true then some (D.bl (!decide (V.bl i = V.bl j))) else none) = _
  rw [if_pos (by rfl)]
  congr 2
  simp
@[simp] theorem ov_ixL {as : List D} {i : Int} : oIx (.lst as) (.int i) = atI as i := (rfl)
@[simp] theorem ov_ixT {as : List D} {i : Int} : oIx (.tup as) (.int i) = atI as i := (rfl)
@[simp] theorem ov_lenL {as : List D} : oLen [.lst as] = some (.int as.length) := (rfl)
@[simp] theorem ov_lenT {as : List D} : oLen [.tup as] = some (.int as.length) := (rfl)
@[simp] theorem ov_abs {i : Int} : oAbs [.int i] = some (.int (if i < 0 then -i else i)) := (rfl)
@[simp] theorem ov_divmod {i j : Int} : oDivmod [.int i, .int j] = if divOk j = true then some (.tup [.int (i / j), .int (i % j)]) else none := (rfl)
@[simp] theorem ov_isi {T : String} {d : D} : oIsi T d = (isT T d).map D.bl := (rfl)
@[simp] theorem ov_isT1 {T : String} : isT T .non = some false := (rfl)
@[simp] theorem ov_isT2 {T : String} {b : Bool} : isT T (.bl b) = some (T == "bool" || T == "int") := (rfl)
@[simp] theorem ov_isT3 {T : String} {i : Int} : isT T (.int i) = some (T == "int") := (rfl)
@[simp] theorem ov_isT4 {T : String} {x : Str} : isT T (.str x) = some (T == "str") := (rfl)
@[simp] theorem ov_isT5 {T : String} {as : List D} : isT T (.tup as) = some (T == "tuple") := (rfl)
@[simp] theorem ov_isT6 {T : String} {as : List D} : isT T (.lst as) = some (T == "list") := (rfl)
@[simp] theorem ov_isT7 {T : String} {as : List (Key × D)} : isT T (.dct as) = some (T == "dict") := (rfl)
@[simp] theorem ov_pow {i j : Int} : oPow (.int i) (.int j) = if powOk i j = true then some (.int (i ^ j.toNat)) else none := (rfl)
@[simp] theorem ov_rng1 {j : Int} : oRng [.int j] = if r62 j = true then some (rngD 0 j.toNat) else none := (rfl)
@[simp] theorem ov_rng2 {i j : Int} : oRng [.int i, .int j] = if r62 i = true ∧ r62 j = true then some (rngD i (j - i).toNat) else none := (rfl)
@[simp] theorem at0 {α : Type} {a : α} {l : List α} : atI (a :: l) 0 = some a := by
  unfold atI ixN; simp
@[simp] theorem at1 {α : Type} {a b : α} {l : List α} : atI (a :: b :: l) 1 = some b := by
  unfold atI ixN
  rw [if_pos (by omega), if_pos (by simp only [List.length_cons]; omega)]
  rfl
-- statements
@[simp] theorem sv_nx : sNx n ds = some (.nx, n, ds) := (rfl)
@[simp] theorem sv_bk : sBk n ds = some (.bk, n, ds) := (rfl)
@[simp] theorem sv_ct : sCt n ds = some (.ct, n, ds) := (rfl)
@[simp] theorem sv_none : sNone n ds = none := (rfl)
@[simp] theorem sv_seq {a b : MS} : sSeq a b n ds = match a n ds with
  | some (.nx, n1, ds1) => b n1 ds1
  | r => r := (rfl)
@[simp] theorem sv_E {m : Mo α} {f : α → MS} : sE m f n ds = match m n ds with
  | none => none
  | some (.ex C fs, n1) => some (.ex C fs, n1, ds)
  | some (.ok a, n1) => f a n1 ds := (rfl)
@[simp] theorem sv_if {t : Mo Bool} {a b : MS} : sIf t a b n ds = sE t (fun c => match c with | true => a | false => b) n ds := (rfl)
@[simp] theorem sv_set {i : Nat} {m : M} : sSet i m n ds = sE m (fun d n ds => some (.nx, n, ds.set i (some d))) n ds := (rfl)
@[simp] theorem sv_aug {i : Nat} {m : M} {o : D → D → Option D} : sAug i m o n ds = match ds[i]? with
  | some (some d0) => sE m (fun d n ds => match o d0 d with
    | some d2 => some (.nx, n, ds.set i (some d2))
    | none => none) n ds
  | _ => none := (rfl)
@[simp] theorem sv_drop {m : M} : sDrop m n ds = sE m (fun _ n ds => some (.nx, n, ds)) n ds := (rfl)
@[simp] theorem sv_ret {m : M} : sRet m n ds = sE m (fun d n ds => some (.rt d, n, ds)) n ds := (rfl)
@[simp] theorem sv_retV {i : Nat} : sRetV i n ds = match ds[i]? with | some (some d) => some (.rt d, n, ds) | _ => none := (rfl)
@[simp] theorem sv_asg {tg : Tg} {m : M} : sAsg tg m n ds = sE m (fun d n ds => match tg.bind d ds with
  | some ds' => some (.nx, n, ds')
  | none => none) n ds := (rfl)
@[simp] theorem sv_par {i j : Nat} {ms : Mo (List D)} : sPar i j ms n ds = sE ms (fun as n ds => match as with
  | [a, b] => some (.nx, n, (ds.set i (some a)).set j (some b))
  | _ => none) n ds := (rfl)
@[simp] theorem sv_cell {m : M} : sCell m n ds = sE m (fun d n ds => match d with
  | .int i => some (.nx, i, ds)
  | _ => none) n ds := (rfl)
@[simp] theorem tb_one {i : Nat} {d : D} : (Tg.one i).bind d ds = some (ds.set i (some d)) := (rfl)
@[simp] theorem tb_tup {is : List Nat} {as : List D} : (Tg.tup is).bind (.tup as) ds = bindL is as ds := (rfl)
@[simp] theorem tb_nil : bindL [] [] ds = some ds := (rfl)
@[simp] theorem tb_cons {i : Nat} {is : List Nat} {d : D} {as : List D} : bindL (i :: is) (d :: as) ds = bindL is as (ds.set i (some d)) := (rfl)
@[simp] theorem sv_for {mi : Mo (List D)} {tg : Tg} {body : MS} : sFor mi tg body n ds = sE mi (fun as => forL tg body as) n ds := (rfl)
@[simp] theorem sv_forNil {tg : Tg} {body : MS} : forL tg body [] n ds = some (.nx, n, ds) := (rfl)
theorem sv_forCons {tg : Tg} {body : MS} {d : D} {r : List D} : forL tg body (d :: r) n ds = match tg.bind d ds with
    | none => none
    | some ds1 => match body n ds1 with
      | none => none
      | some (.nx, n', ds') => forL tg body r n' ds'
      | some (.ct, n', ds') => forL tg body r n' ds'
      | some (.bk, n', ds') => some (.nx, n', ds')
      | some (.rt d, n', ds') => some (.rt d, n', ds')
      | some (.ex c fs, n', ds') => some (.ex c fs, n', ds') := rfl
@[simp] theorem sv_while {t : Mo Bool} {body : MS} : sWhile t body n ds = whileL t body FUEL n ds := (rfl)
@[simp] theorem of_nx : outF (some (.nx, n, ds)) = some (.ok .non, n) := (rfl)
@[simp] theorem of_rt {d : D} : outF (some (.rt d, n, ds)) = some (.ok d, n) := (rfl)
@[simp] theorem of_ex {c : Addr} {fs : List (Str × Int)} : outF (some (.ex c fs, n, ds)) = some (.ex c fs, n) := (rfl)
theorem seq_nx {a b : MS} {ds1 : DS} {r : Option (Fl × Int × DS)} (h : a n ds = some (.nx, n1, ds1)) (h2 : b n1 ds1 = r) : sSeq a b n ds = r := by
  unfold sSeq; rw [h]; exact h2
theorem seq_rt {a b : MS} {ds1 : DS} {d : D} (h : a n ds = some (.rt d, n1, ds1)) : sSeq a b n ds = some (.rt d, n1, ds1) := by
  unfold sSeq; rw [h]
theorem seq_ex {a b : MS} {ds1 : DS} {c : Addr} {fs : List (Str × Int)} (h : a n ds = some (.ex c fs, n1, ds1)) : sSeq a b n ds = some (.ex c fs, n1, ds1) := by
  unfold sSeq; rw [h]
theorem E_ok {m : Mo α} {f : α → MS} {a : α} {r : Option (Fl × Int × DS)} (h : m n ds = some (.ok a, n1)) (h2 : f a n1 ds = r) : sE m f n ds = r := by
  unfold sE; rw [h]; exact h2
theorem for_of {mi : Mo (List D)} {tg : Tg} {body : MS} {as : List D} {r : Option (Fl × Int × DS)} (h : mi n ds = some (.ok as, n1)) (h2 : forL tg body as n1 ds = r) : sFor mi tg body n ds = r := E_ok h h2
theorem set_of {i : Nat} {m : M} {d : D} (h : m n ds = some (.ok d, n1)) : sSet i m n ds = some (.nx, n1, ds.set i (some d)) := E_ok h (Eq.refl _)
theorem ret_of {m : M} {d : D} (h : m n ds = some (.ok d, n1)) : sRet m n ds = some (.rt d, n1, ds) := E_ok h (Eq.refl _)
theorem if_t {t : Mo Bool} {a b : MS} {r : Option (Fl × Int × DS)} (h : t n ds = some (.ok true, n1)) (h2 : a n1 ds = r) : sIf t a b n ds = r := E_ok h h2
theorem if_f {t : Mo Bool} {a b : MS} {r : Option (Fl × Int × DS)} (h : t n ds = some (.ok false, n1)) (h2 : b n1 ds = r) : sIf t a b n ds = r := E_ok h h2
theorem newCell_rt {i : Nat} {c : Int} {m : MS} {n' : Int} {d : D} {ds' : DS} (hi : i < ds.length) (h : m c (ds.set i none) = some (.rt d, n', ds')) : outF (sNewCell i c m n ds) = some (.ok d, n) := by
  unfold sNewCell
  rw [if_pos hi, h]
  rfl
theorem fn0_of {N : Nat} {ms : MS} {as : List D} {d : D} (h : outF (ms 0 (startD N as)) = some (.ok d, 0)) : fn0 N ms as = some (.ok d) := by
  unfold fn0; rw [h]; rfl
end

/-! ### loops -/
/-- a for that is walked: P holds ahead of item i; a step goes on or ends the loop with an answer that R allows -/
theorem forL_run {tg : Tg} {body : MS} {as : List D} (P : Nat → Int → DS → Prop) (R : Fl × Int × DS → Prop)
    (step : ∀ i d n ds, as[i]? = some d → P i n ds → ∃ ds1, tg.bind d ds = some ds1 ∧ ∃ fl n' ds', body n ds1 = some (fl, n', ds') ∧
      match fl with | .nx => P (i + 1) n' ds' | .ct => P (i + 1) n' ds' | .bk => R (.nx, n', ds') | .rt d => R (.rt d, n', ds') | .ex c fs => R (.ex c fs, n', ds'))
    (fin : ∀ n ds, P as.length n ds → R (.nx, n, ds)) {n : Int} {ds : DS} (h : P 0 n ds) : ∃ r, forL tg body as n ds = some r ∧ R r := by
  have key : ∀ (m i : Nat), m + i = as.length → ∀ n ds, P i n ds → ∃ r, forL tg body (as.drop i) n ds = some r ∧ R r := by
    intro m
    induction m with
    | zero =>
      intro i hi n ds hp
      rw [List.drop_eq_nil_of_le (by omega)]
      have : i = as.length := by omega
      subst this
      exact ⟨_, rfl, fin n ds hp⟩
    | succ m ih =>
      intro i hi n ds hp
      have hlt : i < as.length := by omega
      rw [List.drop_eq_getElem_cons hlt, sv_forCons]
      obtain ⟨ds1, h1, fl, n', ds', h2, h3⟩ := step i _ n ds (List.getElem?_eq_getElem hlt) hp
      simp only [h1, h2]
      cases fl with
      | nx => exact ih (i + 1) (by omega) n' ds' h3
      | ct => exact ih (i + 1) (by omega) n' ds' h3
      | bk => exact ⟨_, rfl, h3⟩
      | rt d => exact ⟨_, rfl, h3⟩
      | ex c fs => exact ⟨_, rfl, h3⟩
  have := key as.length 0 (by omega) n ds h
  rwa [List.drop_zero] at this
/-- no step ends it -/
theorem forL_inv {tg : Tg} {body : MS} {as : List D} (P : Nat → Int → DS → Prop)
    (step : ∀ i d n ds, as[i]? = some d → P i n ds → ∃ ds1, tg.bind d ds = some ds1 ∧ ∃ n' ds', body n ds1 = some (.nx, n', ds') ∧ P (i + 1) n' ds') {n : Int} {ds : DS} (h : P 0 n ds) : ∃ n' ds', forL tg body as n ds = some (.nx, n', ds') ∧ P as.length n' ds' := by
  obtain ⟨r, h1, n', ds', h2, h3⟩ := forL_run (tg := tg) (body := body) (as := as) P (fun r => ∃ n' ds', r = (.nx, n', ds') ∧ P as.length n' ds') (fun i d n ds h1 h2 => by
    obtain ⟨ds1, h3, n', ds', h4, h5⟩ := step i d n ds h1 h2
    exact ⟨ds1, h3, .nx, n', ds', h4, h5⟩) (fun n ds hp => ⟨n, ds, rfl, hp⟩) h
  subst h2
  exact ⟨n', ds', h1, h3⟩
theorem whileL_run {t : Mo Bool} {body : MS} (P : Nat → Int → DS → Prop) (R : Fl × Int × DS → Prop)
    (step : ∀ m n ds, P m n ds → ∃ b n1, t n ds = some (.ok b, n1) ∧ match b with
      | false => R (.nx, n1, ds)
      | true => ∃ fl n' ds', body n1 ds = some (fl, n', ds') ∧
        match fl with | .nx => (∃ m', m' < m ∧ P m' n' ds') | .ct => (∃ m', m' < m ∧ P m' n' ds') | .bk => R (.nx, n', ds') | .rt d => R (.rt d, n', ds') | .ex c fs => R (.ex c fs, n', ds')) :
    ∀ (fuel m : Nat) {n : Int} {ds : DS}, P m n ds → m < fuel → ∃ r, whileL t body fuel n ds = some r ∧ R r
  | 0, m, n, ds, _, h => absurd h (Nat.not_lt_zero _)
  | fuel + 1, m, n, ds, hp, hf => by
    obtain ⟨b, n1, h1, h2⟩ := step m n ds hp
    show ∃ r, sE t _ n ds = some r ∧ R r
    simp only [sv_E, h1]
    cases b with
    | false => exact ⟨_, rfl, h2⟩
    | true =>
      obtain ⟨fl, n', ds', h3, h4⟩ := h2
      simp only [h3]
      cases fl with
      | nx => obtain ⟨m', h5, h6⟩ := h4; exact whileL_run P R step fuel m' h6 (by omega)
      | ct => obtain ⟨m', h5, h6⟩ := h4; exact whileL_run P R step fuel m' h6 (by omega)
      | bk => exact ⟨_, rfl, h4⟩
      | rt d => exact ⟨_, rfl, h4⟩
      | ex c fs => exact ⟨_, rfl, h4⟩
theorem fuel_lt {m k : Nat} (h : m < 2 ^ k) (hk : k ≤ 100000) : m < FUEL := by
  unfold FUEL
  exact Nat.lt_of_lt_of_le h (Nat.pow_le_pow_right (by decide) hk)

/-! ### sizes -/
def Sz (k : Nat) (i : Int) : Prop := i.natAbs < 2 ^ k
theorem log2_lt {n k : Nat} (h : n < 2 ^ k) (hk : 0 < k) : n.log2 < k := by
  by_cases h0 : n = 0
  · subst h0; exact hk
  · exact (Nat.log2_lt h0).mpr h
theorem mulOk_of {i j : Int} {a b : Nat} (hi : Sz a i) (hj : Sz b j) (h : a + b < 999999) : mulOk i j = true := by
  unfold mulOk
  have h1 : i.natAbs.log2 < a + 1 := log2_lt (Nat.lt_of_lt_of_le hi (Nat.pow_le_pow_right (by decide) (by omega))) (by omega)
  have h2 : j.natAbs.log2 < b + 1 := log2_lt (Nat.lt_of_lt_of_le hj (Nat.pow_le_pow_right (by decide) (by omega))) (by omega)
  rw [Bool.or_eq_true]
  right
  exact decide_eq_true (by omega)
theorem divOk_of {j : Int} {a : Nat} (h0 : 0 < j) (hj : Sz a j) (h : a ≤ 8999) : divOk j = true := by
  unfold divOk
  have h2 : j.natAbs.log2 < a + 1 := log2_lt (Nat.lt_of_lt_of_le hj (Nat.pow_le_pow_right (by decide) (by omega))) (by omega)
  rw [Bool.and_eq_true]
  exact ⟨decide_eq_true h0, decide_eq_true (by omega)⟩
theorem Sz.mono {i : Int} {a b : Nat} (h : Sz a i) (hab : a ≤ b) : Sz b i := Nat.lt_of_lt_of_le h (Nat.pow_le_pow_right (by decide) hab)
theorem Sz.mul {i j : Int} {a b : Nat} (hi : Sz a i) (hj : Sz b j) : Sz (a + b) (i * j) := by
  unfold Sz at *
  rw [Int.natAbs_mul, Nat.pow_add]
  exact Nat.mul_lt_mul_of_lt_of_le hi (Nat.le_of_lt hj) (Nat.pow_pos (by decide))
theorem Sz.add {i j : Int} {a : Nat} (hi : Sz a i) (hj : Sz a j) : Sz (a + 1) (i + j) := by
  unfold Sz at *
  rw [Nat.pow_succ]
  omega
theorem Sz.neg {i : Int} {a : Nat} (hi : Sz a i) : Sz a (-i) := by
  unfold Sz at *
  omega
/-! ### the law's own call -/
theorem law_call {K : PySem.W.Frag} {f : List D → Option (Ot D)} {ns : List Int} {H : Hp} {a : Addr} {Q : VK} {E : XK} (h : f [.lst (ns.map D.int)] = some (.ok (.bl true))) (hS : SqL K H a (ns.map V.int)) (hQ : ∀ H', Q (.bl true) H' := by intro _; rfl) : spM K none 1 0 (pureF f) [.ref a] H Q E := by
  refine ⟨rfl, H, none, 0, [.lst (ns.map D.int)], Same.refl _, fun _ => rfl, (fun i hi => by cases hi), rfl, fun i v d _ h1 h2 => ?_, ?_⟩
  · cases i with
    | zero =>
      simp only [List.getElem?_cons_zero, Option.some.injEq] at h1 h2
      subst h1 h2
      refine .lst hS (by simp) fun j v d h3 h4 => ?_
      rw [List.getElem?_map] at h3 h4
      cases e : ns[j]? with
      | none => rw [e] at h3; cases h3
      | some x =>
        rw [e] at h3 h4
        cases h3; cases h4
        exact .int
    | succ i => simp at h1
  · unfold pureF
    rw [h]
    intro v F' H' _ _ r
    obtain ⟨A, r, _⟩ := r
    rw [r.bl_]
    exact hQ H'
theorem fn_law {P : Program} {w : World} {K : PySem.W.Frag} {mg : Str → Option Value} {base : Heap} {k : Nat} {f : Addr} {fd : FuncData} {ps : List Str} {sp : Sp} (h : FnOk P w K mg base (L2.CX P w) k f fd ps sp) : FnOk P w K mg base CX0 k f fd ps (fun vs H Q _ => sp vs H Q (fun _ _ _ => False)) :=
  ⟨fun vs H Q E z => h.len vs H Q _ z, fun A outer s H args us vs Q E hr e0 hb hv z => codeAny_mono (h.run A outer s H args us vs Q _ hr e0 hb hv z) fun r s' c => by
    match r, c with
    | .ok (.ret u), c => exact c
    | .error e, c => obtain ⟨_, _, _, _, _, _, _, _, _, _, _, _, z⟩ := c; exact z.elim⟩
end GW

namespace K01
open PySem L2 PyProof.Rows GW
def top (i : Nat) : Stmt := PySem.Challenge.pw_gapweave_k01_fractions.main.body.getD i (.Pass ⟨0, 0, 0, 0⟩)
structure BF (mg : Str → Option Value) : Prop where
  abs_ : mg "abs" = none
  all_ : mg "all" = none
  bool_ : mg "bool" = none
  dict_ : mg "dict" = none
  divmod_ : mg "divmod" = none
  int_ : mg "int" = none
  isinstance_ : mg "isinstance" = none
  len_ : mg "len" = none
  list_ : mg "list" = none
  range_ : mg "range" = none
  str_ : mg "str" = none
  tuple_ : mg "tuple" = none
  zip_ : mg "zip" = none
/-! greatest_part -/
abbrev s_greatest_part : Stmt := top 1
def N_greatest_part : List Str := ["one", "other", "rest"]
theorem sc_greatest_part : FnScope N_greatest_part ["one", "other"] (defScope s_greatest_part) := ⟨rfl, rfl, rfl, by decide +kernel, rfl, by decide +kernel, by decide +kernel⟩
abbrev T_greatest_part : Nat → Nat := fun _ => 0
def b_greatest_part_1 : MS :=
  (sSeq (sSet 2 (m2 (mCB (mCons (mVar 0) (mCons (mVar 1) (ret (some [])))) oDivmod) (mC (.int 1)) oIx))
  (sSeq (sSet 0 (mVar 1))
  (sSet 1 (mVar 2))))
def t_greatest_part_1 : Mo Bool :=
  (mTest (m2 (mVar 1) (mC (.int 0)) oGt))
def m_greatest_part : MS :=
  (sSeq (sWhile t_greatest_part_1 b_greatest_part_1)
  (sRet (mVar 0)))
def f_greatest_part : List D → Option (Ot D) := fn0 3 m_greatest_part
/-! lowest -/
abbrev s_lowest : Stmt := top 2
def N_lowest : List Str := ["fraction", "over", "under", "part"]
theorem sc_lowest : FnScope N_lowest ["fraction"] (defScope s_lowest) := ⟨rfl, rfl, rfl, by decide +kernel, rfl, by decide +kernel, by decide +kernel⟩
abbrev T_lowest : Nat → Nat := fun _ => 0
def m_lowest : MS :=
  (sSeq (sAsg (.tup [1, 2]) (mVar 0))
  (sSeq (sSet 3 (mCall (pureF f_greatest_part) (mCons (mCB (mCons (mVar 1) (ret (some []))) oAbs) (mCons (mVar 2) (ret (some []))))))
  (sRet (mTup (mCons (m2 (mVar 1) (mVar 3) oDiv) (mCons (m2 (mVar 2) (mVar 3) oDiv) (ret (some []))))))))
def f_lowest : List D → Option (Ot D) := fn0 4 m_lowest
/-! plus -/
abbrev s_plus : Stmt := top 3
def N_plus : List Str := ["one", "other"]
theorem sc_plus : FnScope N_plus ["one", "other"] (defScope s_plus) := ⟨rfl, rfl, rfl, by decide +kernel, rfl, by decide +kernel, by decide +kernel⟩
abbrev T_plus : Nat → Nat := fun _ => 0
def m_plus : MS :=
  (sRet (mCall (pureF f_lowest) (mCons (mTup (mCons (m2 (m2 (m2 (mVar 0) (mC (.int 0)) oIx) (m2 (mVar 1) (mC (.int 1)) oIx) oMul) (m2 (m2 (mVar 1) (mC (.int 0)) oIx) (m2 (mVar 0) (mC (.int 1)) oIx) oMul) oAdd) (mCons (m2 (m2 (mVar 0) (mC (.int 1)) oIx) (m2 (mVar 1) (mC (.int 1)) oIx) oMul) (ret (some []))))) (ret (some [])))))
def f_plus : List D → Option (Ot D) := fn0 2 m_plus
/-! times -/
abbrev s_times : Stmt := top 4
def N_times : List Str := ["fraction", "number"]
theorem sc_times : FnScope N_times ["fraction", "number"] (defScope s_times) := ⟨rfl, rfl, rfl, by decide +kernel, rfl, by decide +kernel, by decide +kernel⟩
abbrev T_times : Nat → Nat := fun _ => 0
def m_times : MS :=
  (sRet (mCall (pureF f_lowest) (mCons (mTup (mCons (m2 (m2 (mVar 0) (mC (.int 0)) oIx) (mVar 1) oMul) (mCons (m2 (mVar 0) (mC (.int 1)) oIx) (ret (some []))))) (ret (some [])))))
def f_times : List D → Option (Ot D) := fn0 2 m_times
/-! less_than -/
abbrev s_less_than : Stmt := top 5
def N_less_than : List Str := ["one", "other"]
theorem sc_less_than : FnScope N_less_than ["one", "other"] (defScope s_less_than) := ⟨rfl, rfl, rfl, by decide +kernel, rfl, by decide +kernel, by decide +kernel⟩
abbrev T_less_than : Nat → Nat := fun _ => 0
def m_less_than : MS :=
  (sRet (m2 (m2 (m2 (mVar 0) (mC (.int 0)) oIx) (m2 (mVar 1) (mC (.int 1)) oIx) oMul) (m2 (m2 (mVar 1) (mC (.int 0)) oIx) (m2 (mVar 0) (mC (.int 1)) oIx) oMul) oLt))
def f_less_than : List D → Option (Ot D) := fn0 2 m_less_than
/-! _law_next -/
abbrev s__law_next : Stmt := top 7
def N__law_next : List Str := ["_law_script", "_law_at", "_law_cell", "_law_m"]
theorem sc__law_next : FnScope N__law_next ["_law_script", "_law_at"] (defScope s__law_next) := ⟨rfl, rfl, rfl, by decide +kernel, rfl, by decide +kernel, by decide +kernel⟩
abbrev T__law_next : Nat → Nat := fun _ => 0
def m__law_next : MS :=
  (sSeq (sCell (m2 mCell (mC (.int 1)) oAdd))
  (sSeq (sSet 2 (mC (.int 0)))
  (sSeq (sIf (mTest (m2 (mCB (mCons (mVar 0) (ret (some []))) oLen) (mC (.int 0)) oGt)) (sSet 2 (m2 (mVar 0) (m2 mCell (mCB (mCons (mVar 0) (ret (some []))) oLen) oMod) oIx)) sNx)
  (sSeq (sSet 3 (m2 (m2 (m2 (m2 (m2 (mVar 2) (mC (.int 2147483647)) oMod) (m2 (m2 mCell mCell oMul) (mC (.int 7919)) oMul) oAdd) (mC (.int 11)) oAdd) (mC (.int 48271)) oMul) (mC (.int 2147483647)) oMod))
  (sRet (m2 (m2 (mVar 3) (mVar 3) oMul) (mC (.int 1999999973)) oMod))))))
def f__law_next : FM := fnC 1 4 m__law_next
/-! _law_fraction -/
abbrev s__law_fraction : Stmt := top 8
def N__law_fraction : List Str := ["_law_script", "_law_at", "_law_m", "_law_under", "_law_cell"]
theorem sc__law_fraction : FnScope N__law_fraction ["_law_script", "_law_at"] (defScope s__law_fraction) := ⟨rfl, rfl, rfl, by decide +kernel, rfl, by decide +kernel, by decide +kernel⟩
abbrev T__law_fraction : Nat → Nat := fun _ => 0
def m__law_fraction : MS :=
  (sSeq (sSet 2 (mCall f__law_next (mCons (mVar 0) (mCons (mC .non) (ret (some []))))))
  (sSeq (sSet 3 (m2 (mLst (mCons (mC (.int 1)) (mCons (mC (.int 1)) (mCons (mC (.int 2)) (mCons (mC (.int 3)) (mCons (mC (.int 6)) (mCons (m2 (mC (.int 1)) (m2 (m2 (mVar 2) (mC (.int 60)) oDiv) (mC (.int 999)) oMod) oAdd) (ret (some []))))))))) (m2 (mVar 2) (mC (.int 6)) oMod) oIx))
  (sSeq (sIf (mTest (m2 (m2 (m2 (mVar 2) (mC (.int 6)) oDiv) (mC (.int 4)) oMod) (mC (.int 0)) oEq)) (sSeq (sSet 4 (mC (.int 0)))
  (sSeq (sIf (mTest (m2 (mCB (mCons (mVar 0) (ret (some []))) oLen) (mC (.int 0)) oGt)) (sSet 4 (m2 (mVar 0) (m2 mCell (mCB (mCons (mVar 0) (ret (some []))) oLen) oMod) oIx)) sNx)
  (sRet (mTup (mCons (m2 (m2 (m2 (m2 (mVar 4) (m2 (mC (.int 10)) (mC (.int 38)) oPow) oMod) (m2 (mVar 2) (m2 (mC (.int 10)) (mC (.int 20)) oPow) oMul) oAdd) (m2 (mC (.int 10)) (mC (.int 38)) oPow) oMod) (m2 (mC (.int 5)) (m2 (mC (.int 10)) (mC (.int 37)) oPow) oMul) oSub) (mCons (mVar 3) (ret (some [])))))))) sNx)
  (sRet (mTup (mCons (m2 (m2 (m2 (mVar 2) (mC (.int 24)) oDiv) (mC (.int 13)) oMod) (mC (.int 4)) oSub) (mCons (mVar 3) (ret (some [])))))))))
def f__law_fraction : FM := fnC 1 5 m__law_fraction
/-! _law_part -/
abbrev s__law_part : Stmt := top 9
def N__law_part : List Str := ["_law_one", "_law_other"]
theorem sc__law_part : FnScope N__law_part ["_law_one", "_law_other"] (defScope s__law_part) := ⟨rfl, rfl, rfl, by decide +kernel, rfl, by decide +kernel, by decide +kernel⟩
abbrev T__law_part : Nat → Nat := fun _ => 0
def b__law_part_1 : MS :=
  (sPar 0 1 (mCons (mVar 1) (mCons (m2 (mVar 0) (mVar 1) oMod) (ret (some [])))))
def t__law_part_1 : Mo Bool :=
  (mTest (m2 (mVar 1) (mC (.int 0)) oGt))
def m__law_part : MS :=
  (sSeq (sWhile t__law_part_1 b__law_part_1)
  (sRet (mVar 0)))
def f__law_part : List D → Option (Ot D) := fn0 2 m__law_part
/-! _law_equal -/
abbrev s__law_equal : Stmt := top 10
def N__law_equal : List Str := ["_law_found", "_law_over", "_law_under", "_law_part_here"]
theorem sc__law_equal : FnScope N__law_equal ["_law_found", "_law_over", "_law_under"] (defScope s__law_equal) := ⟨rfl, rfl, rfl, by decide +kernel, rfl, by decide +kernel, by decide +kernel⟩
abbrev T__law_equal : Nat → Nat := fun _ => 0
def b__law_equal_1 : MS :=
  (sIf (mOr (mNot (mTest (m1 (mVar 3) (oIsi "int")))) (mTest (m1 (mVar 3) (oIsi "bool")))) (sRet (mC (.bl false))) sNx)
def m__law_equal : MS :=
  (sSeq (sIf (mOr (mNot (mTest (m1 (mVar 0) (oIsi "tuple")))) (mTest (m2 (mCB (mCons (mVar 0) (ret (some []))) oLen) (mC (.int 2)) oNe))) (sRet (mC (.bl false))) sNx)
  (sSeq (sFor (mItT (mVar 0)) (.one 3) b__law_equal_1)
  (sSeq (sIf (mOr (mTest (m2 (m2 (mVar 0) (mC (.int 1)) oIx) (mC (.int 1)) oLt)) (mTest (m2 (mCall (pureF f__law_part) (mCons (mCB (mCons (m2 (mVar 0) (mC (.int 0)) oIx) (ret (some []))) oAbs) (mCons (m2 (mVar 0) (mC (.int 1)) oIx) (ret (some []))))) (mC (.int 1)) oNe))) (sRet (mC (.bl false))) sNx)
  (sRet (m2 (m2 (m2 (mVar 0) (mC (.int 0)) oIx) (mVar 2) oMul) (m2 (mVar 1) (m2 (mVar 0) (mC (.int 1)) oIx) oMul) oEq)))))
def f__law_equal : List D → Option (Ot D) := fn0 4 m__law_equal
/-! _law_same -/
abbrev s__law_same : Stmt := top 11
def N__law_same : List Str := ["_law_found", "_law_due", "_law_name", "_law_one", "_law_other"]
theorem sc__law_same : FnScope N__law_same ["_law_found", "_law_due"] (defScope s__law_same) := ⟨rfl, rfl, rfl, by decide +kernel, rfl, by decide +kernel, by decide +kernel⟩
abbrev T__law_same : Nat → Nat := fun _ => 0
def m__law_same (self : List D → Option (Ot D)) : MS :=
  (sSeq (sIf (mTest (m1 (mVar 1) (oIsi "dict"))) sNone sNx)
  (sSeq (sIf (mOr (mTest (m1 (mVar 1) (oIsi "list"))) (mTest (m1 (mVar 1) (oIsi "tuple")))) (sSeq (sIf (mOr (mTest (m2 (m1 (mVar 0) (oIsi "list")) (m1 (mVar 1) (oIsi "list")) oNe)) (mTest (m2 (m1 (mVar 0) (oIsi "tuple")) (m1 (mVar 1) (oIsi "tuple")) oNe))) (sRet (mC (.bl false))) sNx)
  (sRet (mAndV (m2 (mCB (mCons (mVar 0) (ret (some []))) oLen) (mCB (mCons (mVar 1) (ret (some []))) oLen) oEq) (mCB (mCons (mLc (mZip (mCons (mVar 0) (mCons (mVar 1) (ret (some []))))) (.tup [3, 4]) mYes (mCall (pureF self) (mCons (mVar 3) (mCons (mVar 4) (ret (some []))))) [3, 4]) (ret (some []))) oAll)))) sNx)
  (sSeq (sIf (mTest (m1 (mVar 1) (oIsi "str"))) (sRet (mAndV (m1 (mVar 0) (oIsi "str")) (m2 (mVar 0) (mVar 1) oEq))) sNx)
  (sRet (mAndV (m1 (mVar 0) (oIsi "int")) (mAndV (m1 (m1 (mVar 0) (oIsi "bool")) oNotV) (m2 (mVar 0) (mVar 1) oEq)))))))
def f__law_same : Nat → List D → Option (Ot D)
  | 0 => fun _ => none
  | k + 1 => fn0 5 (m__law_same (f__law_same k))
/-! law -/
abbrev s_law : Stmt := top 12
def N_law : List Str := ["_law_script", "_law_at", "_law_k", "_law_one", "_law_other", "_law_m", "_law_many", "_law_number", "_law_found"]
theorem sc_law : FnScope N_law ["_law_script"] (defScope s_law) := ⟨rfl, rfl, rfl, by decide +kernel, rfl, by decide +kernel, by decide +kernel⟩
abbrev T_law : Nat → Nat := fun _ => 0
def b_law_1 : MS :=
  (sSeq (sSet 3 (mCall f__law_fraction (mCons (mVar 0) (mCons (mC .non) (ret (some []))))))
  (sSeq (sSet 4 (mCall f__law_fraction (mCons (mVar 0) (mCons (mC .non) (ret (some []))))))
  (sSeq (sSet 5 (mCall f__law_next (mCons (mVar 0) (mCons (mC .non) (ret (some []))))))
  (sSeq (sSet 6 (m2 (mC (.int 1)) (m2 (mVar 5) (mC (.int 12)) oMod) oAdd))
  (sSeq (sSet 3 (mTup (mCons (m2 (m2 (mVar 3) (mC (.int 0)) oIx) (mVar 6) oMul) (mCons (m2 (m2 (mVar 3) (mC (.int 1)) oIx) (mVar 6) oMul) (ret (some []))))))
  (sSeq (sIf (mTest (m2 (m2 (m2 (mVar 5) (mC (.int 12)) oDiv) (mC (.int 5)) oMod) (mC (.int 0)) oEq)) (sSet 4 (mTup (mCons (m2 (m2 (m2 (mVar 3) (mC (.int 0)) oIx) (mC (.int 3)) oMul) (m2 (m2 (mVar 5) (mC (.int 60)) oDiv) (mC (.int 2)) oMod) oAdd) (mCons (m2 (m2 (mVar 3) (mC (.int 1)) oIx) (mC (.int 3)) oMul) (ret (some [])))))) sNx)
  (sSeq (sSet 7 (m2 (m2 (m2 (mVar 5) (mC (.int 120)) oDiv) (mC (.int 41)) oMod) (mC (.int 20)) oSub))
  (sSeq (sIf (mNot (mTest (mCall (pureF f__law_equal) (mCons (mCall (pureF f_lowest) (mCons (mVar 3) (ret (some [])))) (mCons (m2 (mVar 3) (mC (.int 0)) oIx) (mCons (m2 (mVar 3) (mC (.int 1)) oIx) (ret (some [])))))))) (sRet (mC (.bl false))) sNx)
  (sSeq (sIf (mNot (mTest (mCall (pureF f__law_equal) (mCons (mCall (pureF f_plus) (mCons (mVar 3) (mCons (mVar 4) (ret (some []))))) (mCons (m2 (m2 (m2 (mVar 3) (mC (.int 0)) oIx) (m2 (mVar 4) (mC (.int 1)) oIx) oMul) (m2 (m2 (mVar 4) (mC (.int 0)) oIx) (m2 (mVar 3) (mC (.int 1)) oIx) oMul) oAdd) (mCons (m2 (m2 (mVar 3) (mC (.int 1)) oIx) (m2 (mVar 4) (mC (.int 1)) oIx) oMul) (ret (some [])))))))) (sRet (mC (.bl false))) sNx)
  (sSeq (sIf (mNot (mTest (mCall (pureF f__law_equal) (mCons (mCall (pureF f_times) (mCons (mVar 3) (mCons (mVar 7) (ret (some []))))) (mCons (m2 (m2 (mVar 3) (mC (.int 0)) oIx) (mVar 7) oMul) (mCons (m2 (mVar 3) (mC (.int 1)) oIx) (ret (some [])))))))) (sRet (mC (.bl false))) sNx)
  (sSeq (sIf (mNot (mTest (mCall (pureF (f__law_same 2)) (mCons (mCall (pureF f_plus) (mCons (mVar 3) (mCons (mTup (mCons (m1 (m2 (mVar 3) (mC (.int 0)) oIx) oNeg) (mCons (m2 (mVar 3) (mC (.int 1)) oIx) (ret (some []))))) (ret (some []))))) (mCons (mTup (mCons (mC (.int 0)) (mCons (mC (.int 1)) (ret (some []))))) (ret (some []))))))) (sRet (mC (.bl false))) sNx)
  (sSeq (sSet 8 (mCall (pureF f_less_than) (mCons (mVar 3) (mCons (mVar 4) (ret (some []))))))
  (sSeq (sIf (mOr (mNot (mTest (m1 (mVar 8) (oIsi "bool")))) (mTest (m2 (mVar 8) (m2 (m2 (m2 (mVar 3) (mC (.int 0)) oIx) (m2 (mVar 4) (mC (.int 1)) oIx) oMul) (m2 (m2 (mVar 4) (mC (.int 0)) oIx) (m2 (mVar 3) (mC (.int 1)) oIx) oMul) oLt) oNe))) (sRet (mC (.bl false))) sNx)
  (sIf (mOr (mTest (mCall (pureF f_less_than) (mCons (mVar 3) (mCons (mVar 3) (ret (some [])))))) (mTest (mCall (pureF f_less_than) (mCons (mCall (pureF f_lowest) (mCons (mVar 3) (ret (some [])))) (mCons (mVar 3) (ret (some []))))))) (sRet (mC (.bl false))) sNx))))))))))))))
def m_law : MS :=
  (sNewCell 1 0 (sSeq (sFor (mRng (mCons (m2 (mC (.int 1)) (mCB (mCons (mSl (mVar 0) mNoPart (mPart (mC (.int 60)))) (ret (some []))) oLen) oAdd) (ret (some [])))) (.one 2) b_law_1)
  (sRet (mC (.bl true)))))
def f_law : List D → Option (Ot D) := fn0 9 m_law
end K01

namespace K01
open PySem L2 PyProof.Rows GW
section
variable {P : Program} {w : World} {K : PySem.W.Frag} {mg : Str → Option Value} {base : Heap}
theorem ok_greatest_part {f : Addr} {fd : FuncData} (Fu : FunD K "greatest_part" "greatest_part" (defArgs s_greatest_part) (defBody s_greatest_part) (defScope s_greatest_part) [] [] f fd) (hm : mg "greatest_part" = some (.ref f)) (bl : BF mg)  : Av P w K mg base "greatest_part" ["one", "other"] 1 (spM K none 2 0 (pureF f_greatest_part)) :=
  ⟨f, fd, hm, Fu.kp, (Fu.bindsN fun _ _ _ _ _ _ us hl => match us, hl with | [_, _], _ => rfl), def_ok0 (N := N_greatest_part) (T := T_greatest_part) (ms := m_greatest_part) Fu sc_greatest_part (by first | (exact fun _ _ => rfl) | decide) (fun cdv A outer s H E hr => by
      exact (ws_cons (ws_while (passes_of rfl) (vt_cmp op_gt os_cmp (ve_var (pv 1) (.inl rfl)) ve_int (nomark _)) (ws_cons (ws_set (i := 2) (ve_ix (ve_divmod bl.divmod_ (va_cons (ve_var (pv 0) (.inl rfl)) (va_cons (ve_var (pv 1) (.inl rfl)) va_nil))) ve_int) rfl rfl sc_greatest_part.nd)
  (ws_cons (ws_set (i := 0) (ve_var (pv 1) (.inl rfl)) rfl rfl sc_greatest_part.nd)
  (ws_one (ws_set (i := 1) (ve_var (pv 2) (.inl rfl)) rfl rfl sc_greatest_part.nd)))))
  (ws_one (ws_ret (ve_var (pv 0) (.inl rfl))))))⟩
theorem ok_lowest {f : Addr} {fd : FuncData} (Fu : FunD K "lowest" "lowest" (defArgs s_lowest) (defBody s_lowest) (defScope s_lowest) [] [] f fd) (hm : mg "lowest" = some (.ref f)) (bl : BF mg) (A_greatest_part : Av P w K mg base "greatest_part" ["one", "other"] 1 (spM K none 2 0 (pureF f_greatest_part))) : Av P w K mg base "lowest" ["fraction"] 2 (spM K none 1 0 (pureF f_lowest)) :=
  ⟨f, fd, hm, Fu.kp, (Fu.bindsN fun _ _ _ _ _ _ us hl => match us, hl with | [_], _ => rfl), def_ok0 (N := N_lowest) (T := T_lowest) (ms := m_lowest) Fu sc_lowest (by first | (exact fun _ _ => rfl) | decide) (fun cdv A outer s H E hr => by
      exact (ws_cons (ws_asg (ve_var (pv 0) (.inl rfl)) (vg_tup rfl (vgs_cons (i := 1) ⟨rfl, rfl⟩ sc_lowest.nd (vgs_cons (i := 2) ⟨rfl, rfl⟩ sc_lowest.nd vgs_nil))))
  (ws_cons (ws_set (i := 3) (ve_callA A_greatest_part (fun _ => ⟨_, rfl⟩) (hr.mono (by first | decide | omega)) (takes_of rfl rfl rfl rfl) (vc_all (va_cons (ve_abs bl.abs_ (va_cons (ve_var (pv 1) (.inl rfl)) va_nil)) (va_cons (ve_var (pv 2) (.inl rfl)) va_nil))) (LenM.cons (LenM.cons LenM.nil))) rfl rfl sc_lowest.nd)
  (ws_one (ws_ret (ve_tup (va_cons (ve_op op_fdivW os_div (ve_var (pv 1) (.inl rfl)) (ve_var (pv 3) (.inl rfl))) (va_cons (ve_op op_fdivW os_div (ve_var (pv 2) (.inl rfl)) (ve_var (pv 3) (.inl rfl))) va_nil))))))))⟩
theorem ok_plus {f : Addr} {fd : FuncData} (Fu : FunD K "plus" "plus" (defArgs s_plus) (defBody s_plus) (defScope s_plus) [] [] f fd) (hm : mg "plus" = some (.ref f)) (bl : BF mg) (A_lowest : Av P w K mg base "lowest" ["fraction"] 2 (spM K none 1 0 (pureF f_lowest))) : Av P w K mg base "plus" ["one", "other"] 3 (spM K none 2 0 (pureF f_plus)) :=
  ⟨f, fd, hm, Fu.kp, (Fu.bindsN fun _ _ _ _ _ _ us hl => match us, hl with | [_, _], _ => rfl), def_ok0 (N := N_plus) (T := T_plus) (ms := m_plus) Fu sc_plus (by first | (exact fun _ _ => rfl) | decide) (fun cdv A outer s H E hr => by
      exact (ws_one (ws_ret (ve_callA A_lowest (fun _ => ⟨_, rfl⟩) (hr.mono (by first | decide | omega)) (takes_of rfl rfl rfl rfl) (vc_all (va_cons (ve_tup (va_cons (ve_op op_addIS os_add (ve_op op_mulIW os_mul (ve_ix (ve_var (pv 0) (.inl rfl)) ve_int) (ve_ix (ve_var (pv 1) (.inl rfl)) ve_int)) (ve_op op_mulIW os_mul (ve_ix (ve_var (pv 1) (.inl rfl)) ve_int) (ve_ix (ve_var (pv 0) (.inl rfl)) ve_int))) (va_cons (ve_op op_mulIW os_mul (ve_ix (ve_var (pv 0) (.inl rfl)) ve_int) (ve_ix (ve_var (pv 1) (.inl rfl)) ve_int)) va_nil))) va_nil)) (LenM.cons LenM.nil)))))⟩
theorem ok_times {f : Addr} {fd : FuncData} (Fu : FunD K "times" "times" (defArgs s_times) (defBody s_times) (defScope s_times) [] [] f fd) (hm : mg "times" = some (.ref f)) (bl : BF mg) (A_lowest : Av P w K mg base "lowest" ["fraction"] 2 (spM K none 1 0 (pureF f_lowest))) : Av P w K mg base "times" ["fraction", "number"] 3 (spM K none 2 0 (pureF f_times)) :=
  ⟨f, fd, hm, Fu.kp, (Fu.bindsN fun _ _ _ _ _ _ us hl => match us, hl with | [_, _], _ => rfl), def_ok0 (N := N_times) (T := T_times) (ms := m_times) Fu sc_times (by first | (exact fun _ _ => rfl) | decide) (fun cdv A outer s H E hr => by
      exact (ws_one (ws_ret (ve_callA A_lowest (fun _ => ⟨_, rfl⟩) (hr.mono (by first | decide | omega)) (takes_of rfl rfl rfl rfl) (vc_all (va_cons (ve_tup (va_cons (ve_op op_mulIW os_mul (ve_ix (ve_var (pv 0) (.inl rfl)) ve_int) (ve_var (pv 1) (.inl rfl))) (va_cons (ve_ix (ve_var (pv 0) (.inl rfl)) ve_int) va_nil))) va_nil)) (LenM.cons LenM.nil)))))⟩
theorem ok_less_than {f : Addr} {fd : FuncData} (Fu : FunD K "less_than" "less_than" (defArgs s_less_than) (defBody s_less_than) (defScope s_less_than) [] [] f fd) (hm : mg "less_than" = some (.ref f)) (bl : BF mg)  : Av P w K mg base "less_than" ["one", "other"] 1 (spM K none 2 0 (pureF f_less_than)) :=
  ⟨f, fd, hm, Fu.kp, (Fu.bindsN fun _ _ _ _ _ _ us hl => match us, hl with | [_, _], _ => rfl), def_ok0 (N := N_less_than) (T := T_less_than) (ms := m_less_than) Fu sc_less_than (by first | (exact fun _ _ => rfl) | decide) (fun cdv A outer s H E hr => by
      exact (ws_one (ws_ret (ve_cmp op_lt os_cmp (ve_op op_mulIW os_mul (ve_ix (ve_var (pv 0) (.inl rfl)) ve_int) (ve_ix (ve_var (pv 1) (.inl rfl)) ve_int)) (ve_op op_mulIW os_mul (ve_ix (ve_var (pv 1) (.inl rfl)) ve_int) (ve_ix (ve_var (pv 0) (.inl rfl)) ve_int)) (nomark _)))))⟩
theorem ok__law_next {f : Addr} {fd : FuncData} (Fu : FunD K "_law_next" "_law_next" (defArgs s__law_next) (defBody s__law_next) (defScope s__law_next) [] [] f fd) (hm : mg "_law_next" = some (.ref f)) (bl : BF mg)  : Av P w K mg base "_law_next" ["_law_script", "_law_at"] 1 (spM K (some 1) 2 0 f__law_next) :=
  ⟨f, fd, hm, Fu.kp, (Fu.bindsN fun _ _ _ _ _ _ us hl => match us, hl with | [_, _], _ => rfl), def_okC (N := N__law_next) (T := T__law_next) (ms := m__law_next) 1 (by decide) Fu sc__law_next (by first | (exact fun _ _ => rfl) | decide) (fun cdv A outer s H E a hr => by
      exact (ws_cons (ws_cell (ve_op op_addIS os_add (ve_cell (pv 1) ⟨_, rfl, rfl⟩ pe_int) ve_int) (pv 1) ⟨_, rfl, rfl⟩ pe_int)
  (ws_cons (ws_set (i := 2) ve_int rfl rfl sc__law_next.nd)
  (ws_cons (ws_if (vt_cmp op_gt os_cmp (ve_len bl.len_ (va_cons (ve_var (pv 0) (.inl rfl)) va_nil)) ve_int (nomark _)) (ws_one (ws_set (i := 2) (ve_ix (ve_var (pv 0) (.inl rfl)) (ve_op op_mod os_mod (ve_cell (pv 1) ⟨_, rfl, rfl⟩ pe_int) (ve_len bl.len_ (va_cons (ve_var (pv 0) (.inl rfl)) va_nil)))) rfl rfl sc__law_next.nd)) ws_nil)
  (ws_cons (ws_set (i := 3) (ve_op op_mod os_mod (ve_op op_mulIW os_mul (ve_op op_addIS os_add (ve_op op_addIS os_add (ve_op op_mod os_mod (ve_var (pv 2) (.inl rfl)) ve_int) (ve_op op_mulIW os_mul (ve_op op_mulIW os_mul (ve_cell (pv 1) ⟨_, rfl, rfl⟩ pe_int) (ve_cell (pv 1) ⟨_, rfl, rfl⟩ pe_int)) ve_int)) ve_int) ve_int) ve_int) rfl rfl sc__law_next.nd)
  (ws_one (ws_ret (ve_op op_mod os_mod (ve_op op_mulIW os_mul (ve_var (pv 3) (.inl rfl)) (ve_var (pv 3) (.inl rfl))) ve_int))))))))⟩
theorem ok__law_fraction {f : Addr} {fd : FuncData} (Fu : FunD K "_law_fraction" "_law_fraction" (defArgs s__law_fraction) (defBody s__law_fraction) (defScope s__law_fraction) [] [] f fd) (hm : mg "_law_fraction" = some (.ref f)) (bl : BF mg) (A__law_next : Av P w K mg base "_law_next" ["_law_script", "_law_at"] 1 (spM K (some 1) 2 0 f__law_next)) : Av P w K mg base "_law_fraction" ["_law_script", "_law_at"] 2 (spM K (some 1) 2 0 f__law_fraction) :=
  ⟨f, fd, hm, Fu.kp, (Fu.bindsN fun _ _ _ _ _ _ us hl => match us, hl with | [_, _], _ => rfl), def_okC (N := N__law_fraction) (T := T__law_fraction) (ms := m__law_fraction) 1 (by decide) Fu sc__law_fraction (by first | (exact fun _ _ => rfl) | decide) (fun cdv A outer s H E a hr => by
      exact (ws_cons (ws_set (i := 2) (ve_callA A__law_next (fun h => by cases h) (hr.mono (by first | decide | omega)) (takes_of rfl rfl rfl rfl) (vc_cons (ve_var (pv 0) (.inl rfl)) (vc_cell (pv 1) ⟨_, rfl, rfl⟩ (vc_all va_nil))) (LenM.cons (LenM.cons LenM.nil))) rfl rfl sc__law_fraction.nd)
  (ws_cons (ws_set (i := 3) (ve_ix (ve_frz (ve_lst1 (va_cons ve_int (va_cons ve_int (va_cons ve_int (va_cons ve_int (va_cons ve_int (va_cons (ve_op op_addIS os_add ve_int (ve_op op_mod os_mod (ve_op op_fdivW os_div (ve_var (pv 2) (.inl rfl)) ve_int) ve_int)) va_nil)))))))) (ve_op op_mod os_mod (ve_var (pv 2) (.inl rfl)) ve_int)) rfl rfl sc__law_fraction.nd)
  (ws_cons (ws_if (vt_cmp op_eq os_eq (ve_op op_mod os_mod (ve_op op_fdivW os_div (ve_var (pv 2) (.inl rfl)) ve_int) ve_int) ve_int (nomark _)) (ws_cons (ws_set (i := 4) ve_int rfl rfl sc__law_fraction.nd)
  (ws_cons (ws_if (vt_cmp op_gt os_cmp (ve_len bl.len_ (va_cons (ve_var (pv 0) (.inl rfl)) va_nil)) ve_int (nomark _)) (ws_one (ws_set (i := 4) (ve_ix (ve_var (pv 0) (.inl rfl)) (ve_op op_mod os_mod (ve_cell (pv 1) ⟨_, rfl, rfl⟩ pe_int) (ve_len bl.len_ (va_cons (ve_var (pv 0) (.inl rfl)) va_nil)))) rfl rfl sc__law_fraction.nd)) ws_nil)
  (ws_one (ws_ret (ve_tup (va_cons (ve_op op_sub os_sub (ve_op op_mod os_mod (ve_op op_addIS os_add (ve_op op_mod os_mod (ve_var (pv 4) (.inl rfl)) (ve_op op_pow os_pow ve_int ve_int)) (ve_op op_mulIW os_mul (ve_var (pv 2) (.inl rfl)) (ve_op op_pow os_pow ve_int ve_int))) (ve_op op_pow os_pow ve_int ve_int)) (ve_op op_mulIW os_mul ve_int (ve_op op_pow os_pow ve_int ve_int))) (va_cons (ve_var (pv 3) (.inl rfl)) va_nil))))))) ws_nil)
  (ws_one (ws_ret (ve_tup (va_cons (ve_op op_sub os_sub (ve_op op_mod os_mod (ve_op op_fdivW os_div (ve_var (pv 2) (.inl rfl)) ve_int) ve_int) ve_int) (va_cons (ve_var (pv 3) (.inl rfl)) va_nil)))))))))⟩
theorem ok__law_part {f : Addr} {fd : FuncData} (Fu : FunD K "_law_part" "_law_part" (defArgs s__law_part) (defBody s__law_part) (defScope s__law_part) [] [] f fd) (hm : mg "_law_part" = some (.ref f)) (bl : BF mg)  : Av P w K mg base "_law_part" ["_law_one", "_law_other"] 1 (spM K none 2 0 (pureF f__law_part)) :=
  ⟨f, fd, hm, Fu.kp, (Fu.bindsN fun _ _ _ _ _ _ us hl => match us, hl with | [_, _], _ => rfl), def_ok0 (N := N__law_part) (T := T__law_part) (ms := m__law_part) Fu sc__law_part (by first | (exact fun _ _ => rfl) | decide) (fun cdv A outer s H E hr => by
      exact (ws_cons (ws_while (passes_of rfl) (vt_cmp op_gt os_cmp (ve_var (pv 1) (.inl rfl)) ve_int (nomark _)) (ws_one (ws_par ⟨rfl, rfl⟩ ⟨rfl, rfl⟩ (ps_par (i := 0) (j := 1) rfl sc__law_part.nd rfl rfl (by decide) rfl rfl (va_cons (ve_var (pv 1) (.inl rfl)) (va_cons (ve_op op_mod os_mod (ve_var (pv 0) (.inl rfl)) (ve_var (pv 1) (.inl rfl))) va_nil)) (by rfl)))))
  (ws_one (ws_ret (ve_var (pv 0) (.inl rfl))))))⟩
theorem ok__law_equal {f : Addr} {fd : FuncData} (Fu : FunD K "_law_equal" "_law_equal" (defArgs s__law_equal) (defBody s__law_equal) (defScope s__law_equal) [] [] f fd) (hm : mg "_law_equal" = some (.ref f)) (bl : BF mg) (A__law_part : Av P w K mg base "_law_part" ["_law_one", "_law_other"] 1 (spM K none 2 0 (pureF f__law_part))) : Av P w K mg base "_law_equal" ["_law_found", "_law_over", "_law_under"] 2 (spM K none 3 0 (pureF f__law_equal)) :=
  ⟨f, fd, hm, Fu.kp, (Fu.bindsN fun _ _ _ _ _ _ us hl => match us, hl with | [_, _, _], _ => rfl), def_ok0 (N := N__law_equal) (T := T__law_equal) (ms := m__law_equal) Fu sc__law_equal (by first | (exact fun _ _ => rfl) | decide) (fun cdv A outer s H E hr => by
      exact (ws_cons (ws_if ((vw_or (vt_not (vt_val (ve_isi (T := "tuple") bl.isinstance_ bl.tuple_ PyProof.Rows.boot_tuple rfl (ve_var (pv 0) (.inl rfl))))) (vw_one_or (vt_cmp op_ne os_ne (ve_len bl.len_ (va_cons (ve_var (pv 0) (.inl rfl)) va_nil)) ve_int (nomark _))))).pt (ws_one (ws_ret ve_bl)) ws_nil)
  (ws_cons (ws_for (passes_of rfl) (vi_tup (ve_var (pv 0) (.inl rfl))) (vg_name (i := 3) ⟨rfl, rfl⟩ sc__law_equal.nd) (ws_one (ws_if ((vw_or (vt_not (vt_val (ve_isi (T := "int") bl.isinstance_ bl.int_ PyProof.Rows.boot_int rfl (ve_var (pv 3) (.inl rfl))))) (vw_one_or (vt_val (ve_isi (T := "bool") bl.isinstance_ bl.bool_ PyProof.Rows.boot_bool rfl (ve_var (pv 3) (.inl rfl))))))).pt (ws_one (ws_ret ve_bl)) ws_nil)))
  (ws_cons (ws_if ((vw_or (vt_cmp op_lt os_cmp (ve_ix (ve_var (pv 0) (.inl rfl)) ve_int) ve_int (nomark _)) (vw_one_or (vt_cmp op_ne os_ne (ve_bo (ve_callA A__law_part (fun _ => ⟨_, rfl⟩) (hr.mono (by first | decide | omega)) (takes_of rfl rfl rfl rfl) (vc_all (va_cons (ve_abs bl.abs_ (va_cons (ve_ix (ve_var (pv 0) (.inl rfl)) ve_int) va_nil)) (va_cons (ve_ix (ve_var (pv 0) (.inl rfl)) ve_int) va_nil))) (LenM.cons (LenM.cons LenM.nil)))) ve_int (nomark _))))).pt (ws_one (ws_ret ve_bl)) ws_nil)
  (ws_one (ws_ret (ve_cmp op_eq os_eq (ve_op op_mulIW os_mul (ve_ix (ve_var (pv 0) (.inl rfl)) ve_int) (ve_var (pv 2) (.inl rfl))) (ve_op op_mulIW os_mul (ve_var (pv 1) (.inl rfl)) (ve_ix (ve_var (pv 0) (.inl rfl)) ve_int)) (nomark _))))))))⟩
theorem ok__law_same {f : Addr} {fd : FuncData} (Fu : FunD K "_law_same" "_law_same" (defArgs s__law_same) (defBody s__law_same) (defScope s__law_same) [] [] f fd) (hm : mg "_law_same" = some (.ref f)) (bl : BF mg)  : ∀ k : Nat, Av P w K mg base "_law_same" ["_law_found", "_law_due"] (0 + k + 1) (spM K none 2 0 (pureF (f__law_same k)))
  | 0 => ⟨f, fd, hm, Fu.kp, (Fu.bindsN fun _ _ _ _ _ _ us hl => match us, hl with | [_, _], _ => rfl), ⟨fun vs H Q E h => h.1, fun A outer s H args us vs Q E hr e0 hb r h => by
      obtain ⟨_, _, _, _, _, _, _, _, _, _, h⟩ := h
      exact h.elim⟩⟩
  | k + 1 => ⟨f, fd, hm, Fu.kp, (Fu.bindsN fun _ _ _ _ _ _ us hl => match us, hl with | [_, _], _ => rfl), def_ok0 (N := N__law_same) (T := T__law_same) (ms := m__law_same (f__law_same k)) Fu sc__law_same (by first | (exact fun _ _ => rfl) | decide) (fun cdv A outer s H E hr => by
      have ih := ok__law_same Fu hm bl  k
      exact (ws_cons (ws_if (vt_val (ve_isi (T := "dict") bl.isinstance_ bl.dict_ PyProof.Rows.boot_dict rfl (ve_var (pv 1) (.inl rfl)))) wss_never ws_nil)
  (ws_cons (ws_if ((vw_or (vt_val (ve_isi (T := "list") bl.isinstance_ bl.list_ PyProof.Rows.boot_list rfl (ve_var (pv 1) (.inl rfl)))) (vw_one_or (vt_val (ve_isi (T := "tuple") bl.isinstance_ bl.tuple_ PyProof.Rows.boot_tuple rfl (ve_var (pv 1) (.inl rfl))))))).pt (ws_cons (ws_if ((vw_or (vt_cmp op_ne os_ne (ve_isi (T := "list") bl.isinstance_ bl.list_ PyProof.Rows.boot_list rfl (ve_var (pv 0) (.inl rfl))) (ve_isi (T := "list") bl.isinstance_ bl.list_ PyProof.Rows.boot_list rfl (ve_var (pv 1) (.inl rfl))) (nomark _)) (vw_one_or (vt_cmp op_ne os_ne (ve_isi (T := "tuple") bl.isinstance_ bl.tuple_ PyProof.Rows.boot_tuple rfl (ve_var (pv 0) (.inl rfl))) (ve_isi (T := "tuple") bl.isinstance_ bl.tuple_ PyProof.Rows.boot_tuple rfl (ve_var (pv 1) (.inl rfl))) (nomark _))))).pt (ws_one (ws_ret ve_bl)) ws_nil)
  (ws_one (ws_ret (ve_and (ve_cmp op_eq os_eq (ve_len bl.len_ (va_cons (ve_var (pv 0) (.inl rfl)) va_nil)) (ve_len bl.len_ (va_cons (ve_var (pv 1) (.inl rfl)) va_nil)) (nomark _)) (ve_one (ve_all bl.all_ (va_cons (ve_bo (ve_lc (own := [("_law_one", 3), ("_law_other", 4)]) (vi_zip bl.zip_ (va_cons (ve_var (pv 0) (.inl rfl)) (va_cons (ve_var (pv 1) (.inl rfl)) va_nil))) (blkOk_by (own := [("_law_one", 3), ("_law_other", 4)]) (N := N__law_same) (sc := (defScope s__law_same)) (by decide +kernel)) (fun _ _ _ _ _ => (vg_tup rfl (vgs_cons (i := 3) ⟨rfl, rfl⟩ sc__law_same.nd (vgs_cons (i := 4) ⟨rfl, rfl⟩ sc__law_same.nd vgs_nil)))) (fun _ _ _ _ _ => vts_nil) (fun _ _ _ _ _ => (ve_callA ih (fun _ => ⟨_, rfl⟩) (hr.mono (by omega)) takes0 (vc_all (va_cons (ve_var (pv 3) (.inl rfl)) (va_cons (ve_var (pv 4) (.inl rfl)) va_nil))) (LenM.cons (LenM.cons LenM.nil)))) (by decide) (fun i hi => by first | rfl | (simp at hi; subst hi; rfl) | (simp at hi; rcases hi with hi | hi <;> subst hi <;> rfl)) sc__law_same.nd)) va_nil))))))) ws_nil)
  (ws_cons (ws_if (vt_val (ve_isi (T := "str") bl.isinstance_ bl.str_ PyProof.Rows.boot_str rfl (ve_var (pv 1) (.inl rfl)))) (ws_one (ws_ret (ve_and (ve_isi (T := "str") bl.isinstance_ bl.str_ PyProof.Rows.boot_str rfl (ve_var (pv 0) (.inl rfl))) (ve_one (ve_cmp op_eq os_eq (ve_var (pv 0) (.inl rfl)) (ve_var (pv 1) (.inl rfl)) (nomark _)))))) ws_nil)
  (ws_one (ws_ret (ve_and (ve_isi (T := "int") bl.isinstance_ bl.int_ PyProof.Rows.boot_int rfl (ve_var (pv 0) (.inl rfl))) (ve_and (ve_not (ve_isi (T := "bool") bl.isinstance_ bl.bool_ PyProof.Rows.boot_bool rfl (ve_var (pv 0) (.inl rfl)))) (ve_one (ve_cmp op_eq os_eq (ve_var (pv 0) (.inl rfl)) (ve_var (pv 1) (.inl rfl)) (nomark _)))))))))))⟩
theorem fk_law {f : Addr} {fd : FuncData} (Fu : FunD K "law" "law" (defArgs s_law) (defBody s_law) (defScope s_law) [] [] f fd) (hm : mg "law" = some (.ref f)) (bl : BF mg) (A__law_equal : Av P w K mg base "_law_equal" ["_law_found", "_law_over", "_law_under"] 2 (spM K none 3 0 (pureF f__law_equal))) (A__law_fraction : Av P w K mg base "_law_fraction" ["_law_script", "_law_at"] 2 (spM K (some 1) 2 0 f__law_fraction)) (A__law_next : Av P w K mg base "_law_next" ["_law_script", "_law_at"] 1 (spM K (some 1) 2 0 f__law_next)) (A__law_same : Av P w K mg base "_law_same" ["_law_found", "_law_due"] 3 (spM K none 2 0 (pureF (f__law_same 2)))) (A_less_than : Av P w K mg base "less_than" ["one", "other"] 1 (spM K none 2 0 (pureF f_less_than))) (A_lowest : Av P w K mg base "lowest" ["fraction"] 2 (spM K none 1 0 (pureF f_lowest))) (A_plus : Av P w K mg base "plus" ["one", "other"] 3 (spM K none 2 0 (pureF f_plus))) (A_times : Av P w K mg base "times" ["fraction", "number"] 3 (spM K none 2 0 (pureF f_times))) : FnOk P w K mg base (L2.CX P w) 4 f fd ["_law_script"] (spM K none 1 0 (pureF f_law)) :=
  def_ok0 (N := N_law) (T := T_law) (ms := m_law) Fu sc_law (by first | (exact fun _ _ => rfl) | decide) (fun cdv A outer s H E hr => by
      exact (ws_newCell (i := 1) rfl (fun _ => rfl) sc_law.nd (fun a => (ws_cons (ws_for (passes_of rfl) (vi_range1 bl.range_ (va_cons (ve_op op_addIS os_add ve_int (ve_len bl.len_ (va_cons (ve_slb (ve_var (pv 0) (.inl rfl)) vo_none (vo_some ve_int)) va_nil))) va_nil)) (vg_name (i := 2) ⟨rfl, rfl⟩ sc_law.nd) (ws_cons (ws_set (i := 3) (ve_callA A__law_fraction (fun h => by cases h) (hr.mono (by first | decide | omega)) (takes_of rfl rfl rfl rfl) (vc_cons (ve_var (pv 0) (.inl rfl)) (vc_cell (pv 1) ⟨_, rfl, rfl⟩ (vc_all va_nil))) (LenM.cons (LenM.cons LenM.nil))) rfl rfl sc_law.nd)
  (ws_cons (ws_set (i := 4) (ve_callA A__law_fraction (fun h => by cases h) (hr.mono (by first | decide | omega)) (takes_of rfl rfl rfl rfl) (vc_cons (ve_var (pv 0) (.inl rfl)) (vc_cell (pv 1) ⟨_, rfl, rfl⟩ (vc_all va_nil))) (LenM.cons (LenM.cons LenM.nil))) rfl rfl sc_law.nd)
  (ws_cons (ws_set (i := 5) (ve_callA A__law_next (fun h => by cases h) (hr.mono (by first | decide | omega)) (takes_of rfl rfl rfl rfl) (vc_cons (ve_var (pv 0) (.inl rfl)) (vc_cell (pv 1) ⟨_, rfl, rfl⟩ (vc_all va_nil))) (LenM.cons (LenM.cons LenM.nil))) rfl rfl sc_law.nd)
  (ws_cons (ws_set (i := 6) (ve_op op_addIS os_add ve_int (ve_op op_mod os_mod (ve_var (pv 5) (.inl rfl)) ve_int)) rfl rfl sc_law.nd)
  (ws_cons (ws_set (i := 3) (ve_tup (va_cons (ve_op op_mulIW os_mul (ve_ix (ve_var (pv 3) (.inl rfl)) ve_int) (ve_var (pv 6) (.inl rfl))) (va_cons (ve_op op_mulIW os_mul (ve_ix (ve_var (pv 3) (.inl rfl)) ve_int) (ve_var (pv 6) (.inl rfl))) va_nil))) rfl rfl sc_law.nd)
  (ws_cons (ws_if (vt_cmp op_eq os_eq (ve_op op_mod os_mod (ve_op op_fdivW os_div (ve_var (pv 5) (.inl rfl)) ve_int) ve_int) ve_int (nomark _)) (ws_one (ws_set (i := 4) (ve_tup (va_cons (ve_op op_addIS os_add (ve_op op_mulIW os_mul (ve_ix (ve_var (pv 3) (.inl rfl)) ve_int) ve_int) (ve_op op_mod os_mod (ve_op op_fdivW os_div (ve_var (pv 5) (.inl rfl)) ve_int) ve_int)) (va_cons (ve_op op_mulIW os_mul (ve_ix (ve_var (pv 3) (.inl rfl)) ve_int) ve_int) va_nil))) rfl rfl sc_law.nd)) ws_nil)
  (ws_cons (ws_set (i := 7) (ve_op op_sub os_sub (ve_op op_mod os_mod (ve_op op_fdivW os_div (ve_var (pv 5) (.inl rfl)) ve_int) ve_int) ve_int) rfl rfl sc_law.nd)
  (ws_cons (ws_if (vt_not (vt_val (ve_bo (ve_callA A__law_equal (fun _ => ⟨_, rfl⟩) (hr.mono (by first | decide | omega)) (takes_of rfl rfl rfl rfl) (vc_all (va_cons (ve_callA A_lowest (fun _ => ⟨_, rfl⟩) (hr.mono (by first | decide | omega)) (takes_of rfl rfl rfl rfl) (vc_all (va_cons (ve_var (pv 3) (.inl rfl)) va_nil)) (LenM.cons LenM.nil)) (va_cons (ve_ix (ve_var (pv 3) (.inl rfl)) ve_int) (va_cons (ve_ix (ve_var (pv 3) (.inl rfl)) ve_int) va_nil)))) (LenM.cons (LenM.cons (LenM.cons LenM.nil))))))) (ws_one (ws_ret ve_bl)) ws_nil)
  (ws_cons (ws_if (vt_not (vt_val (ve_bo (ve_callA A__law_equal (fun _ => ⟨_, rfl⟩) (hr.mono (by first | decide | omega)) (takes_of rfl rfl rfl rfl) (vc_all (va_cons (ve_callA A_plus (fun _ => ⟨_, rfl⟩) (hr.mono (by first | decide | omega)) (takes_of rfl rfl rfl rfl) (vc_all (va_cons (ve_var (pv 3) (.inl rfl)) (va_cons (ve_var (pv 4) (.inl rfl)) va_nil))) (LenM.cons (LenM.cons LenM.nil))) (va_cons (ve_op op_addIS os_add (ve_op op_mulIW os_mul (ve_ix (ve_var (pv 3) (.inl rfl)) ve_int) (ve_ix (ve_var (pv 4) (.inl rfl)) ve_int)) (ve_op op_mulIW os_mul (ve_ix (ve_var (pv 4) (.inl rfl)) ve_int) (ve_ix (ve_var (pv 3) (.inl rfl)) ve_int))) (va_cons (ve_op op_mulIW os_mul (ve_ix (ve_var (pv 3) (.inl rfl)) ve_int) (ve_ix (ve_var (pv 4) (.inl rfl)) ve_int)) va_nil)))) (LenM.cons (LenM.cons (LenM.cons LenM.nil))))))) (ws_one (ws_ret ve_bl)) ws_nil)
  (ws_cons (ws_if (vt_not (vt_val (ve_bo (ve_callA A__law_equal (fun _ => ⟨_, rfl⟩) (hr.mono (by first | decide | omega)) (takes_of rfl rfl rfl rfl) (vc_all (va_cons (ve_callA A_times (fun _ => ⟨_, rfl⟩) (hr.mono (by first | decide | omega)) (takes_of rfl rfl rfl rfl) (vc_all (va_cons (ve_var (pv 3) (.inl rfl)) (va_cons (ve_var (pv 7) (.inl rfl)) va_nil))) (LenM.cons (LenM.cons LenM.nil))) (va_cons (ve_op op_mulIW os_mul (ve_ix (ve_var (pv 3) (.inl rfl)) ve_int) (ve_var (pv 7) (.inl rfl))) (va_cons (ve_ix (ve_var (pv 3) (.inl rfl)) ve_int) va_nil)))) (LenM.cons (LenM.cons (LenM.cons LenM.nil))))))) (ws_one (ws_ret ve_bl)) ws_nil)
  (ws_cons (ws_if (vt_not (vt_val (ve_bo (ve_callA A__law_same (fun _ => ⟨_, rfl⟩) (hr.mono (by first | decide | omega)) (takes_of rfl rfl rfl rfl) (vc_all (va_cons (ve_callA A_plus (fun _ => ⟨_, rfl⟩) (hr.mono (by first | decide | omega)) (takes_of rfl rfl rfl rfl) (vc_all (va_cons (ve_var (pv 3) (.inl rfl)) (va_cons (ve_tup (va_cons (ve_un un_neg us_neg (ve_ix (ve_var (pv 3) (.inl rfl)) ve_int)) (va_cons (ve_ix (ve_var (pv 3) (.inl rfl)) ve_int) va_nil))) va_nil))) (LenM.cons (LenM.cons LenM.nil))) (va_cons (ve_tup (va_cons ve_int (va_cons ve_int va_nil))) va_nil))) (LenM.cons (LenM.cons LenM.nil)))))) (ws_one (ws_ret ve_bl)) ws_nil)
  (ws_cons (ws_set (i := 8) (ve_callA A_less_than (fun _ => ⟨_, rfl⟩) (hr.mono (by first | decide | omega)) (takes_of rfl rfl rfl rfl) (vc_all (va_cons (ve_var (pv 3) (.inl rfl)) (va_cons (ve_var (pv 4) (.inl rfl)) va_nil))) (LenM.cons (LenM.cons LenM.nil))) rfl rfl sc_law.nd)
  (ws_cons (ws_if ((vw_or (vt_not (vt_val (ve_isi (T := "bool") bl.isinstance_ bl.bool_ PyProof.Rows.boot_bool rfl (ve_var (pv 8) (.inl rfl))))) (vw_one_or (vt_cmp op_ne os_ne (ve_var (pv 8) (.inl rfl)) (ve_cmp op_lt os_cmp (ve_op op_mulIW os_mul (ve_ix (ve_var (pv 3) (.inl rfl)) ve_int) (ve_ix (ve_var (pv 4) (.inl rfl)) ve_int)) (ve_op op_mulIW os_mul (ve_ix (ve_var (pv 4) (.inl rfl)) ve_int) (ve_ix (ve_var (pv 3) (.inl rfl)) ve_int)) (nomark _)) (nomark _))))).pt (ws_one (ws_ret ve_bl)) ws_nil)
  (ws_one (ws_if ((vw_or (vt_val (ve_bo (ve_callA A_less_than (fun _ => ⟨_, rfl⟩) (hr.mono (by first | decide | omega)) (takes_of rfl rfl rfl rfl) (vc_all (va_cons (ve_var (pv 3) (.inl rfl)) (va_cons (ve_var (pv 3) (.inl rfl)) va_nil))) (LenM.cons (LenM.cons LenM.nil))))) (vw_one_or (vt_val (ve_bo (ve_callA A_less_than (fun _ => ⟨_, rfl⟩) (hr.mono (by first | decide | omega)) (takes_of rfl rfl rfl rfl) (vc_all (va_cons (ve_callA A_lowest (fun _ => ⟨_, rfl⟩) (hr.mono (by first | decide | omega)) (takes_of rfl rfl rfl rfl) (vc_all (va_cons (ve_var (pv 3) (.inl rfl)) va_nil)) (LenM.cons LenM.nil)) (va_cons (ve_var (pv 3) (.inl rfl)) va_nil))) (LenM.cons (LenM.cons LenM.nil)))))))).pt (ws_one (ws_ret ve_bl)) ws_nil))))))))))))))))
  (ws_one (ws_ret ve_bl))))))
end
end K01

namespace K01
open PySem L2 PyProof.Rows GW
/-! ### the greatest part -/
theorem gcd_step {a b : Int} (ha : 0 ≤ a) (hb : 0 < b) : Int.gcd b (a % b) = Int.gcd a b := by
  obtain ⟨A, rfl⟩ := Int.eq_ofNat_of_zero_le ha
  obtain ⟨B, rfl⟩ := Int.eq_ofNat_of_zero_le (show 0 ≤ b by omega)
  show Nat.gcd B ((A : Int) % (B : Int)).natAbs = Nat.gcd A B
  rw [← Int.natCast_emod, Int.natAbs_natCast, Nat.gcd_comm A B, Nat.gcd_rec B A, Nat.gcd_comm]
theorem gp_eval {a b : Int} (ha : 0 ≤ a) (hb : 0 ≤ b) (hs : Sz 8000 b) : f_greatest_part [.int a, .int b] = some (.ok (.int (Int.gcd a b))) := by
  unfold f_greatest_part
  apply fn0_of
  have hl := whileL_run (t := t_greatest_part_1) (body := b_greatest_part_1)
    (fun m n ds => n = 0 ∧ ∃ x y r, ds = [some (.int x), some (.int y), r] ∧ 0 ≤ x ∧ 0 ≤ y ∧ m = y.toNat ∧ Sz 8000 y ∧ Int.gcd x y = Int.gcd a b)
    (fun r => ∃ r2 r3, r = (.nx, 0, [some (.int (Int.gcd a b)), r2, r3]))
    (fun m n ds ⟨h0, x, y, r, hd, hx, hy, hm, hs, hg⟩ => by
      subst h0 hd hm
      by_cases h : 0 < y
      · refine ⟨true, 0, by simp [h, t_greatest_part_1], .nx, 0, [some (.int y), some (.int (x % y)), some (.int (x % y))], ?_, ?_⟩
        · simp [b_greatest_part_1, divOk_of h hs (by decide)]
        · have h1 := Int.emod_nonneg x (show y ≠ 0 by omega)
          have h2 := Int.emod_lt_of_pos x h
          refine ⟨(x % y).toNat, by omega, rfl, y, x % y, _, rfl, hy, h1, rfl, ?_, ?_⟩
          · unfold Sz at *; omega
          · rw [gcd_step hx h, hg]
      · have : y = 0 := by omega
        subst this
        refine ⟨false, 0, by simp [t_greatest_part_1], ?_⟩
        refine ⟨some (.int 0), r, ?_⟩
        rw [← hg, Int.gcd_zero_right, Int.natAbs_of_nonneg hx]) FUEL b.toNat (n := 0) (ds := startD 3 [.int a, .int b]) ⟨rfl, a, b, none, rfl, ha, hb, rfl, hs, rfl⟩ (fuel_lt (k := 8000) (by unfold Sz at hs; omega) (by decide))
  obtain ⟨r, h1, r2, r3, h2⟩ := hl
  subst h2
  unfold m_greatest_part
  simp [h1]
theorem part_eval {a b : Int} (ha : 0 ≤ a) (hb : 0 ≤ b) (hs : Sz 8000 b) : f__law_part [.int a, .int b] = some (.ok (.int (Int.gcd a b))) := by
  unfold f__law_part
  apply fn0_of
  have hl := whileL_run (t := t__law_part_1) (body := b__law_part_1)
    (fun m n ds => n = 0 ∧ ∃ x y, ds = [some (.int x), some (.int y)] ∧ 0 ≤ x ∧ 0 ≤ y ∧ m = y.toNat ∧ Int.gcd x y = Int.gcd a b)
    (fun r => ∃ r2, r = (.nx, 0, [some (.int (Int.gcd a b)), r2]))
    (fun m n ds ⟨h0, x, y, hd, hx, hy, hm, hg⟩ => by
      subst h0 hd hm
      by_cases h : 0 < y
      · refine ⟨true, 0, by simp [h, t__law_part_1], .nx, 0, [some (.int y), some (.int (x % y))], ?_, ?_⟩
        · simp [h, b__law_part_1]
        · have h1 := Int.emod_nonneg x (show y ≠ 0 by omega)
          have h2 := Int.emod_lt_of_pos x h
          refine ⟨(x % y).toNat, by omega, rfl, y, x % y, rfl, hy, h1, rfl, ?_⟩
          rw [gcd_step hx h, hg]
      · have : y = 0 := by omega
        subst this
        refine ⟨false, 0, by simp [t__law_part_1], ?_⟩
        refine ⟨some (.int 0), ?_⟩
        rw [← hg, Int.gcd_zero_right, Int.natAbs_of_nonneg hx]) FUEL b.toNat (n := 0) (ds := startD 2 [.int a, .int b]) ⟨rfl, a, b, rfl, ha, hb, rfl, rfl⟩ (fuel_lt (k := 8000) (by unfold Sz at hs; omega) (by decide))
  obtain ⟨r, h1, r2, h2⟩ := hl
  subst h2
  unfold m__law_part
  simp [h1]
/-! ### lowest terms -/
def lowD (a b : Int) : D := .tup [.int (a / Int.gcd a b), .int (b / Int.gcd a b)]
theorem absI (a : Int) : (if a < 0 then -a else a) = (a.natAbs : Int) := by split <;> omega
theorem lowest_eval {a b : Int} (hb : 0 < b) (hs : Sz 8000 b) : f_lowest [.tup [.int a, .int b]] = some (.ok (lowD a b)) := by
  have hg : Int.gcd (a.natAbs : Int) b = Int.gcd a b := by simp [Int.gcd]
  have h0 : 0 < Int.gcd a b := Int.gcd_pos_of_ne_zero_right a (by omega)
  have hle : Int.gcd a b ≤ b.natAbs := Nat.le_of_dvd (by omega) (Nat.gcd_dvd_right _ _)
  have hgs : Sz 8000 (Int.gcd a b : Int) := by unfold Sz at *; omega
  have hd : divOk (Int.gcd a b : Int) = true := divOk_of (by omega) hgs (by decide)
  unfold f_lowest m_lowest
  apply fn0_of
  simp [startD, absI, gp_eval (a := (a.natAbs : Int)) (b := b) (by omega) (by omega) hs, hg, hd, lowD]
theorem low_parts {a b : Int} (hb : 0 < b) : ∃ p q : Int, a / (Int.gcd a b : Int) = p ∧ b / (Int.gcd a b : Int) = q ∧ 0 < q ∧ Int.gcd p q = 1 ∧ p * b = a * q ∧ p.natAbs ≤ a.natAbs ∧ q.natAbs ≤ b.natAbs := by
  have h0 : 0 < Int.gcd a b := Int.gcd_pos_of_ne_zero_right a (by omega)
  obtain ⟨p, hp⟩ : (Int.gcd a b : Int) ∣ a := Int.gcd_dvd_left a b
  obtain ⟨q, hq⟩ : (Int.gcd a b : Int) ∣ b := Int.gcd_dvd_right a b
  have hgg : Int.gcd (Int.gcd a b * p) (Int.gcd a b * q) = Int.gcd a b * Int.gcd p q := by
    rw [Int.gcd_mul_left]; simp
  rw [← hp, ← hq] at hgg
  generalize hg : Int.gcd a b = g at *
  subst hp hq
  have hg1 : Int.gcd p q = 1 := Nat.eq_of_mul_eq_mul_left h0 (by omega)
  have hq0 : 0 < q := by
    rcases Int.lt_trichotomy q 0 with h | h | h
    · have := Int.mul_neg_of_pos_of_neg (show (0 : Int) < g by omega) h; omega
    · subst h; simp at hb
    · exact h
  refine ⟨p, q, Int.mul_ediv_cancel_left p (by omega), Int.mul_ediv_cancel_left q (by omega), hq0, hg1, by rw [← Int.mul_assoc, Int.mul_comm p g], ?_, ?_⟩
  · rw [Int.natAbs_mul]; exact Nat.le_mul_of_pos_left _ (by omega)
  · rw [Int.natAbs_mul]; exact Nat.le_mul_of_pos_left _ (by omega)
theorem equal_eval {a b : Int} (hb : 0 < b) (ha : Sz 4000 a) (hs : Sz 4000 b) : f__law_equal [lowD a b, .int a, .int b] = some (.ok (.bl true)) := by
  obtain ⟨p, q, e1, e2, hq, hg, he, l1, l2⟩ := low_parts (a := a) hb
  have hp' : Sz 4000 p := by unfold Sz at *; omega
  have hq' : Sz 4000 q := by unfold Sz at *; omega
  unfold lowD
  rw [e1, e2]
  have m1 : mulOk p b = true := mulOk_of hp' hs (by decide)
  have m2 : mulOk a q = true := mulOk_of ha hq' (by decide)
  have hg' : Int.gcd (p.natAbs : Int) q = 1 := by rw [← hg]; simp [Int.gcd]
  have e3 : f__law_part [.int (p.natAbs : Int), .int q] = some (.ok (.int 1)) := by
    rw [part_eval (by omega) (by omega) (hq'.mono (by decide)), hg']; rfl
  unfold f__law_equal m__law_equal
  apply fn0_of
  have hq1 : ¬ q < 1 := by omega
  simp [startD, sv_forCons, b__law_equal_1, absI, e3, m1, m2, he, hq1]
theorem same_eval : f__law_same 2 [.tup [.int 0, .int 1], .tup [.int 0, .int 1]] = some (.ok (.bl true)) := by
  rfl
theorem plus_eval {a b c d : Int} (hb : 0 < b) (hd : 0 < d) (ha : Sz 300 a) (hb' : Sz 300 b) (hc : Sz 300 c) (hd' : Sz 300 d) : f_plus [.tup [.int a, .int b], .tup [.int c, .int d]] = some (.ok (lowD (a * d + c * b) (b * d))) := by
  have m1 : mulOk a d = true := mulOk_of ha hd' (by decide)
  have m2 : mulOk c b = true := mulOk_of hc hb' (by decide)
  have m3 : mulOk b d = true := mulOk_of hb' hd' (by decide)
  have := lowest_eval (a := a * d + c * b) (Int.mul_pos hb hd) ((hb'.mul hd').mono (by decide))
  unfold f_plus m_plus
  apply fn0_of
  simp [startD, m1, m2, m3, this]
theorem times_eval {a b m : Int} (hb : 0 < b) (ha : Sz 300 a) (hb' : Sz 300 b) (hm : Sz 300 m) : f_times [.tup [.int a, .int b], .int m] = some (.ok (lowD (a * m) b)) := by
  have m1 : mulOk a m = true := mulOk_of ha hm (by decide)
  have := lowest_eval (a := a * m) hb (hb'.mono (by decide))
  unfold f_times m_times
  apply fn0_of
  simp [startD, m1, this]
theorem less_eval {a b c d : Int} (ha : Sz 300 a) (hb' : Sz 300 b) (hc : Sz 300 c) (hd' : Sz 300 d) : f_less_than [.tup [.int a, .int b], .tup [.int c, .int d]] = some (.ok (.bl (decide (a * d < c * b)))) := by
  have m1 : mulOk a d = true := mulOk_of ha hd' (by decide)
  have m2 : mulOk c b = true := mulOk_of hc hb' (by decide)
  unfold f_less_than m_less_than
  apply fn0_of
  simp [startD, m1, m2]
end K01

namespace K01
open PySem L2 PyProof.Rows GW
theorem mulR {i j : Int} (h : -18446744073709551616 < j ∧ j < 18446744073709551616) : mulOk i j = true := by
  unfold mulOk i64
  have : (decide (-18446744073709551616 < j) && decide (j < 18446744073709551616)) = true := by simp [h.1, h.2]
  rw [this]; simp
theorem mulL {i j : Int} (h : -18446744073709551616 < i ∧ i < 18446744073709551616) : mulOk i j = true := by
  unfold mulOk i64
  have : (decide (-18446744073709551616 < i) && decide (i < 18446744073709551616)) = true := by simp [h.1, h.2]
  rw [this]; simp
theorem divL {j : Int} (h : 0 < j ∧ j < 18446744073709551616) : divOk j = true := divOk_of (a := 64) h.1 (by unfold Sz; omega) (by decide)
abbrev scD (ns : List Int) : D := .lst (ns.map D.int)
theorem at_script {ns : List Int} {i : Int} (h0 : 0 ≤ i) (h1 : i < ns.length) : ∃ c, atI (ns.map D.int) i = some (.int c) := by
  unfold atI ixN
  rw [if_pos h0, if_pos (by simpa using h1)]
  obtain ⟨k, rfl⟩ := Int.eq_ofNat_of_zero_le h0
  have hk : k < ns.length := by omega
  exact ⟨ns[k], by simp [hk]⟩
theorem next_eval {ns : List Int} {n : Int} (h0 : 0 ≤ n) (h1 : n ≤ 1000000) : ∃ v : Int, f__law_next n [scD ns, .non] = some (.ok (.int v), n + 1) ∧ 0 ≤ v ∧ v < 1999999973 := by
  obtain ⟨c, hc⟩ : ∃ c : Int, ∀ (a b : Option D), sIf (mTest (m2 (mCB (mCons (mVar 0) (ret (some []))) oLen) (mC (.int 0)) oGt)) (sSet 2 (m2 (mVar 0) (m2 mCell (mCB (mCons (mVar 0) (ret (some []))) oLen) oMod) oIx)) sNx (n + 1) [some (scD ns), a, some (.int 0), b] = some (.nx, n + 1, [some (scD ns), a, some (.int c), b]) := by
    by_cases hl : 0 < (ns.length : Int)
    · obtain ⟨c, hc⟩ := at_script (ns := ns) (Int.emod_nonneg (n + 1) (show (ns.length : Int) ≠ 0 by omega)) (Int.emod_lt_of_pos (n + 1) hl)
      have hl2 : 0 < ns.length := by omega
      exact ⟨c, fun a b => by simp [hl, hl2, hc]⟩
    · have hl2 : ¬ 0 < ns.length := by omega
      exact ⟨0, fun a b => by simp [hl2]⟩
  have r0 := Int.emod_nonneg c (show (2147483647 : Int) ≠ 0 by decide)
  have r1 := Int.emod_lt_of_pos c (show (0 : Int) < 2147483647 by decide)
  have hq : (n + 1) * (n + 1) ≤ 1000001 * 1000001 := Int.mul_le_mul (by omega) (by omega) (by omega) (by omega)
  have hq0 : 0 ≤ (n + 1) * (n + 1) := Int.mul_nonneg (by omega) (by omega)
  have m1 : mulOk (n + 1) (n + 1) = true := mulL ⟨by omega, by omega⟩
  have m2 : mulOk ((n + 1) * (n + 1)) 7919 = true := mulR (by decide)
  have m3 : mulOk (c % 2147483647 + (n + 1) * (n + 1) * 7919 + 11) 48271 = true := mulR (by decide)
  have s0 := Int.emod_nonneg ((c % 2147483647 + (n + 1) * (n + 1) * 7919 + 11) * 48271) (show (2147483647 : Int) ≠ 0 by decide)
  have s1 := Int.emod_lt_of_pos ((c % 2147483647 + (n + 1) * (n + 1) * 7919 + 11) * 48271) (show (0 : Int) < 2147483647 by decide)
  generalize hm : (c % 2147483647 + (n + 1) * (n + 1) * 7919 + 11) * 48271 % 2147483647 = m at s0 s1
  have m4 : mulOk m m = true := mulL ⟨by omega, by omega⟩
  refine ⟨m * m % 1999999973, ?_, Int.emod_nonneg _ (by decide), Int.emod_lt_of_pos _ (by decide)⟩
  unfold f__law_next fnC m__law_next
  simp [-sv_if, startD, hc, m1, m2, m3, hm, m4]
end K01

namespace K01
open PySem L2 PyProof.Rows GW
theorem frac_eval {ns : List Int} {n : Int} (h0 : 0 ≤ n) (h1 : n ≤ 100000) : ∃ a b : Int, f__law_fraction n [scD ns, .non] = some (.ok (.tup [.int a, .int b]), n + 1) ∧ 0 < b ∧ b ≤ 999 ∧ -(10 ^ 38) ≤ a ∧ a ≤ 10 ^ 38 := by
  obtain ⟨v, hv, v0, v1⟩ := next_eval (ns := ns) h0 (show n ≤ 1000000 by omega)
  obtain ⟨c, hc⟩ : ∃ c : Int, ∀ (a b : Option D), sIf (mTest (m2 (mCB (mCons (mVar 0) (ret (some []))) oLen) (mC (.int 0)) oGt)) (sSet 4 (m2 (mVar 0) (m2 mCell (mCB (mCons (mVar 0) (ret (some []))) oLen) oMod) oIx)) sNx (n + 1) [some (scD ns), none, a, b, some (.int 0)] = some (.nx, n + 1, [some (scD ns), none, a, b, some (.int c)]) := by
    by_cases hl : 0 < (ns.length : Int)
    · obtain ⟨c, hc⟩ := at_script (ns := ns) (Int.emod_nonneg (n + 1) (show (ns.length : Int) ≠ 0 by omega)) (Int.emod_lt_of_pos (n + 1) hl)
      have hl2 : 0 < ns.length := by omega
      exact ⟨c, fun a b => by simp [hl, hl2, hc]⟩
    · have hl2 : ¬ 0 < ns.length := by omega
      exact ⟨0, fun a b => by simp [hl2]⟩
  obtain ⟨u, hu, u0, u1⟩ : ∃ u : Int, atI [D.int 1, .int 1, .int 2, .int 3, .int 6, .int (1 + v / 60 % 999)] (v % 6) = some (.int u) ∧ 0 < u ∧ u ≤ 999 := by
    have : v % 6 = 0 ∨ v % 6 = 1 ∨ v % 6 = 2 ∨ v % 6 = 3 ∨ v % 6 = 4 ∨ v % 6 = 5 := by omega
    rcases this with h | h | h | h | h | h <;> rw [h]
    · exact ⟨1, rfl, by decide, by decide⟩
    · exact ⟨1, rfl, by decide, by decide⟩
    · exact ⟨2, rfl, by decide, by decide⟩
    · exact ⟨3, rfl, by decide, by decide⟩
    · exact ⟨6, rfl, by decide, by decide⟩
    · exact ⟨1 + v / 60 % 999, rfl, by omega, by omega⟩
  have d6 : divOk 6 = true := by decide
  have d24 : divOk 24 = true := by decide
  have d60 : divOk 60 = true := by decide
  have p38 : powOk 10 38 = true := by decide
  have p37 : powOk 10 37 = true := by decide
  have p20 : powOk 10 20 = true := by decide
  have ml : ∀ j : Int, mulOk v j = true := fun j => mulL ⟨by omega, by omega⟩
  have m5 : ∀ j : Int, mulOk 5 j = true := fun j => mulL (by decide)
  by_cases h4 : v / 6 % 4 = 0
  · refine ⟨(c % 10 ^ 38 + v * 10 ^ 20) % 10 ^ 38 - 5 * 10 ^ 37, u, ?_, u0, u1, ?_, ?_⟩
    · unfold f__law_fraction fnC m__law_fraction
      simp [-sv_if, startD, hv, hu, d6, d60]
      rw [sv_if]
      simp [-sv_if, d6, h4, hc, p38, p37, p20, ml, m5]
    · have := Int.emod_nonneg (c % 10 ^ 38 + v * 10 ^ 20) (show (10 ^ 38 : Int) ≠ 0 by decide)
      omega
    · have := Int.emod_lt_of_pos (c % 10 ^ 38 + v * 10 ^ 20) (show (0 : Int) < 10 ^ 38 by decide)
      omega
  · refine ⟨v / 24 % 13 - 4, u, ?_, u0, u1, by omega, by omega⟩
    unfold f__law_fraction fnC m__law_fraction
    simp [-sv_if, startD, hv, hu, d6, d60]
    rw [sv_if]
    simp [-sv_if, d6, d24, h4]
end K01

namespace K01
open PySem L2 PyProof.Rows GW
theorem cut60 (ns : List D) : ∃ l, oSl none (some 60) (.lst ns) = some (.lst l) ∧ l.length ≤ 60 := by
  refine ⟨_, rfl, ?_⟩
  unfold GW.cutD
  refine Nat.le_trans (List.length_take_le _ _) ?_
  unfold HT.sIx
  simp
  omega
theorem sz200 {a : Int} (h1 : -(2 ^ 200) < a) (h2 : a < 2 ^ 200) : Sz 300 a := by
  unfold Sz; omega
theorem low_less {a b : Int} (hb : 0 < b) (ha : Sz 300 a) (hs : Sz 300 b) : f_less_than [lowD a b, .tup [.int a, .int b]] = some (.ok (.bl false)) := by
  obtain ⟨p, q, e1, e2, hq, hg, he, l1, l2⟩ := low_parts (a := a) hb
  unfold lowD
  rw [e1, e2, less_eval (by unfold Sz at *; omega) (by unfold Sz at *; omega) ha hs, he]
  simp
theorem same0 {a b : Int} (hb : 0 < b) (ha : Sz 300 a) (hs : Sz 300 b) : f_plus [.tup [.int a, .int b], .tup [.int (-a), .int b]] = some (.ok (.tup [.int 0, .int 1])) := by
  rw [plus_eval hb hb ha hs ha.neg hs]
  have h0 : 0 < b * b := Int.mul_pos hb hb
  have : a * b + -a * b = 0 := by rw [Int.neg_mul]; omega
  rw [this]
  unfold lowD
  have hg : (Int.gcd 0 (b * b) : Int) = b * b := by rw [Int.gcd_zero_left]; omega
  rw [hg, Int.zero_ediv, Int.ediv_self (by omega)]
theorem law_eval (ns : List Int) : f_law [scD ns] = some (.ok (.bl true)) := by
  obtain ⟨l, hl, hl60⟩ := cut60 (ns.map D.int)
  unfold f_law m_law
  apply fn0_of
  have hr : r62 (1 + (l.length : Int)) = true := by
    unfold r62
    rw [Bool.and_eq_true]
    exact ⟨decide_eq_true (by omega), decide_eq_true (by omega)⟩
  have hrl : (rngD 0 (1 + (l.length : Int)).toNat).length ≤ 61 := by unfold rngD; simp; omega
  have hb : ∃ n' ds', forL (.one 2) b_law_1 (rngD 0 (1 + (l.length : Int)).toNat) 0 [some (scD ns), none, none, none, none, none, none, none, none] = some (.nx, n', ds') ∧ True := by
    obtain ⟨n', ds', h1, h2⟩ := forL_inv (tg := .one 2) (body := b_law_1) (as := rngD 0 (1 + (l.length : Int)).toNat)
      (fun i n ds => 0 ≤ n ∧ n ≤ 3 * (i : Int) ∧ ∃ a b c d e f g, ds = [some (scD ns), none, a, b, c, d, e, f, g])
      (fun i x' n ds hi ⟨h0, h1, a, b, c, d, e, f, g, hd⟩ => by
        subst hd
        have hlt := (List.getElem?_eq_some_iff.mp hi).1
        refine ⟨_, rfl, ?_⟩
        have hi : i < 61 := by omega
        obtain ⟨a1, b1, e1, b10, b11, a10, a11⟩ := frac_eval (ns := ns) h0 (show n ≤ 100000 by omega)
        obtain ⟨a2, b2, e2, b20, b21, a20, a21⟩ := frac_eval (ns := ns) (show 0 ≤ n + 1 by omega) (show n + 1 ≤ 100000 by omega)
        obtain ⟨m, e3, m0, m1⟩ := next_eval (ns := ns) (show 0 ≤ n + 1 + 1 by omega) (show n + 1 + 1 ≤ 1000000 by omega)
        have hk0 : 1 ≤ 1 + m % 12 := by omega
        have hk1 : 1 + m % 12 ≤ 12 := by omega
        generalize hk : 1 + m % 12 = k at hk0 hk1
        have ka1 : a1 * k ≤ 12 * 10 ^ 38 := by
          rcases Int.le_total 0 a1 with h | h
          · have := Int.mul_le_mul a11 hk1 (by omega) (by decide); omega
          · have := Int.mul_nonpos_of_nonpos_of_nonneg h (show 0 ≤ k by omega); omega
        have ka0 : -(12 * 10 ^ 38) ≤ a1 * k := by
          rcases Int.le_total 0 a1 with h | h
          · have := Int.mul_nonneg h (show 0 ≤ k by omega); omega
          · have := Int.mul_le_mul (show -a1 ≤ 10 ^ 38 by omega) hk1 (by omega) (by decide)
            rw [Int.neg_mul] at this; omega
        have kb0 : 0 < b1 * k := Int.mul_pos b10 (by omega)
        have kb1 : b1 * k ≤ 999 * 12 := Int.mul_le_mul b11 hk1 (by omega) (by decide)
        have mk1 : mulOk a1 k = true := mulR ⟨by omega, by omega⟩
        have mk2 : mulOk b1 k = true := mulR ⟨by omega, by omega⟩
        generalize hA : a1 * k = A at ka0 ka1
        generalize hB : b1 * k = B at kb0 kb1
        have d12 : divOk 12 = true := by decide
        have d60 : divOk 60 = true := by decide
        have d120 : divOk 120 = true := by decide
        have q0 : 0 ≤ m / 12 % 5 := by omega
        have nb0 : -20 ≤ m / 120 % 41 - 20 := by omega
        have nb1 : m / 120 % 41 - 20 ≤ 20 := by omega
        generalize hnb : m / 120 % 41 - 20 = nb at nb0 nb1
        have sA : Sz 300 A := sz200 (by omega) (by omega)
        have sB : Sz 300 B := sz200 (by omega) (by omega)
        have snb : Sz 300 nb := sz200 (by omega) (by omega)
        have sAn : Sz 300 (A * nb) := by
          have := (show Sz 150 A by unfold Sz; omega).mul (show Sz 150 nb by unfold Sz; omega)
          exact this
        have rest : ∀ (C Dd : Int), 0 < Dd → Dd ≤ 999 * 36 → -(40 * 10 ^ 38) ≤ C → C ≤ 40 * 10 ^ 38 →
            f_lowest [.tup [.int A, .int B]] = some (.ok (lowD A B)) ∧ f__law_equal [lowD A B, .int A, .int B] = some (.ok (.bl true)) ∧
            f_plus [.tup [.int A, .int B], .tup [.int C, .int Dd]] = some (.ok (lowD (A * Dd + C * B) (B * Dd))) ∧
            f__law_equal [lowD (A * Dd + C * B) (B * Dd), .int (A * Dd + C * B), .int (B * Dd)] = some (.ok (.bl true)) ∧
            f_times [.tup [.int A, .int B], .int nb] = some (.ok (lowD (A * nb) B)) ∧
            f__law_equal [lowD (A * nb) B, .int (A * nb), .int B] = some (.ok (.bl true)) ∧
            f_plus [.tup [.int A, .int B], .tup [.int (-A), .int B]] = some (.ok (.tup [.int 0, .int 1])) ∧
            f_less_than [.tup [.int A, .int B], .tup [.int C, .int Dd]] = some (.ok (.bl (decide (A * Dd < C * B)))) ∧
            f_less_than [.tup [.int A, .int B], .tup [.int A, .int B]] = some (.ok (.bl false)) ∧
            f_less_than [lowD A B, .tup [.int A, .int B]] = some (.ok (.bl false)) ∧
            mulOk A Dd = true ∧ mulOk C B = true ∧ mulOk B Dd = true ∧ mulOk A nb = true := by
          intro C Dd hD0 hD1 hC0 hC1
          have sC : Sz 300 C := sz200 (by omega) (by omega)
          have sD : Sz 300 Dd := sz200 (by omega) (by omega)
          have hBD : 0 < B * Dd := Int.mul_pos kb0 hD0
          have sBD : Sz 4000 (B * Dd) := (sB.mul sD).mono (by decide)
          have sX : Sz 4000 (A * Dd + C * B) := ((sA.mul sD).add (sC.mul sB)).mono (by decide)
          refine ⟨lowest_eval kb0 (sB.mono (by decide)), equal_eval kb0 (sA.mono (by decide)) (sB.mono (by decide)), plus_eval kb0 hD0 sA sB sC sD, equal_eval hBD sX sBD, times_eval kb0 sA sB snb, equal_eval kb0 (sAn.mono (by decide)) (sB.mono (by decide)), same0 kb0 sA sB, less_eval sA sB sC sD, ?_, low_less kb0 sA sB, mulOk_of sA sD (by decide), mulOk_of sC sB (by decide), mulOk_of sB sD (by decide), mulOk_of sA snb (by decide)⟩
          rw [less_eval sA sB sA sB]
          simp
        have i1 : -18446744073709551616 < (3 : Int) ∧ (3 : Int) < 18446744073709551616 := by decide
        unfold b_law_1
        by_cases h5 : m / 12 % 5 = 0
        · obtain ⟨r1, r2, r3, r4, r5, r6, r7, r8, r9, r10, r11, r12, r13, r14⟩ := rest (A * 3 + m / 60 % 2) (B * 3) (by omega) (by omega) (by omega) (by omega)
          refine ⟨n + 1 + 1 + 1, [some (scD ns), none, some x', some (.tup [.int A, .int B]), some (.tup [.int (A * 3 + m / 60 % 2), .int (B * 3)]), some (.int m), some (.int k), some (.int nb), some (.bl (decide (A * (B * 3) < (A * 3 + m / 60 % 2) * B)))], ?_, by omega, by omega, _, _, _, _, _, _, _, rfl⟩
          simp [e1, e2, e3, hk, mk1, mk2, hA, hB, d12, d60, d120, h5, hnb, mulR i1, r1, r2, r3, r4, r5, r6, r7, r8, r9, r10, r11, r12, r13, r14, same_eval]
        · obtain ⟨r1, r2, r3, r4, r5, r6, r7, r8, r9, r10, r11, r12, r13, r14⟩ := rest a2 b2 (by omega) (by omega) (by omega) (by omega)
          refine ⟨n + 1 + 1 + 1, [some (scD ns), none, some x', some (.tup [.int A, .int B]), some (.tup [.int a2, .int b2]), some (.int m), some (.int k), some (.int nb), some (.bl (decide (A * b2 < a2 * B)))], ?_, by omega, by omega, _, _, _, _, _, _, _, rfl⟩
          simp [e1, e2, e3, hk, mk1, mk2, hA, hB, d12, d60, d120, h5, hnb, r1, r2, r3, r4, r5, r6, r7, r8, r9, r10, r11, r12, r13, r14, same_eval]) (n := 0) (ds := [some (scD ns), none, none, none, none, none, none, none, none]) ⟨by decide, by decide, none, none, none, none, none, none, none, rfl⟩
    exact ⟨n', ds', h1, trivial⟩
  obtain ⟨n', ds', hb, _⟩ := hb
  refine newCell_rt (by show 1 < 9; decide) (n' := n') (ds' := ds') ?_
  show sSeq _ _ 0 [some (scD ns), none, none, none, none, none, none, none, none] = _
  have hmi : mRng (mCons (m2 (mC (.int 1)) (mCB (mCons (mSl (mVar 0) mNoPart (mPart (mC (.int 60)))) (ret (some []))) oLen) oAdd) (ret (some []))) 0 [some (scD ns), none, none, none, none, none, none, none, none] = some (.ok (rngD 0 (1 + (l.length : Int)).toNat), 0) := by
    simp [hl, hr]
  exact seq_nx (for_of hmi hb) (by simp)
end K01

namespace K01
open PySem L2 PyProof.Rows GW
def d_greatest_part : He.DefD := ⟨("greatest_part", none), "greatest_part", "greatest_part", defArgs s_greatest_part, defBody s_greatest_part, defScope s_greatest_part, [], []⟩
def d_lowest : He.DefD := ⟨("lowest", none), "lowest", "lowest", defArgs s_lowest, defBody s_lowest, defScope s_lowest, [], []⟩
def d_plus : He.DefD := ⟨("plus", none), "plus", "plus", defArgs s_plus, defBody s_plus, defScope s_plus, [], []⟩
def d_times : He.DefD := ⟨("times", none), "times", "times", defArgs s_times, defBody s_times, defScope s_times, [], []⟩
def d_less_than : He.DefD := ⟨("less_than", none), "less_than", "less_than", defArgs s_less_than, defBody s_less_than, defScope s_less_than, [], []⟩
def d__law_next : He.DefD := ⟨("_law_next", none), "_law_next", "_law_next", defArgs s__law_next, defBody s__law_next, defScope s__law_next, [], []⟩
def d__law_fraction : He.DefD := ⟨("_law_fraction", none), "_law_fraction", "_law_fraction", defArgs s__law_fraction, defBody s__law_fraction, defScope s__law_fraction, [], []⟩
def d__law_part : He.DefD := ⟨("_law_part", none), "_law_part", "_law_part", defArgs s__law_part, defBody s__law_part, defScope s__law_part, [], []⟩
def d__law_equal : He.DefD := ⟨("_law_equal", none), "_law_equal", "_law_equal", defArgs s__law_equal, defBody s__law_equal, defScope s__law_equal, [], []⟩
def d__law_same : He.DefD := ⟨("_law_same", none), "_law_same", "_law_same", defArgs s__law_same, defBody s__law_same, defScope s__law_same, [], []⟩
def d_law : He.DefD := ⟨("law", none), "law", "law", defArgs s_law, defBody s_law, defScope s_law, [], []⟩
def fn : List He.DefD := [d_greatest_part, d_lowest, d_plus, d_times, d_less_than, d__law_next, d__law_fraction, d__law_part, d__law_equal, d__law_same, d_law]
def fa : List He.Fa := [.glo "greatest_part", .glo "lowest", .glo "plus", .glo "times", .glo "less_than", .glo "_law_next", .glo "_law_fraction", .glo "_law_part", .glo "_law_equal", .glo "_law_same", .glo "law", .free "abs", .free "all", .free "bool", .free "dict", .free "divmod", .free "int", .free "isinstance", .free "len", .free "list", .free "range", .free "str", .free "tuple", .free "zip"]
abbrev R : PySem.W.OpenRow := PySem.W.OpenLaw.row PySem.Challenge.rw_gapweave_k01_fractions
abbrev hk : PySem.W.Hook := He.hookD 4 fa fn
def ob (s : PySem.W.SharedT) : He.AlD := He.obsDG 4 fa fn (HandSHeadRun.getT s)
theorem ob_eq (s : PySem.W.SharedT) : ob s = hk.obs s.abs := He.obsDG_eq (HandSHeadRun.getT_eq s)
theorem run (w : World) : HandSHeadRun.RunEq R (PySem.W.view R.prog [12]) hk ob 400 ["__name__", "greatest_part", "lowest", "plus", "times", "less_than", "__name__", "_law_next", "_law_fraction", "_law_part", "_law_equal", "_law_same"] w := by
  intro os
  kernel_rfl
theorem facts {P : Program} {w : World} {K : PySem.W.Frag} {h : Heap} {mg : Str → Option Value} {f : Addr} (X : K.In h) (G : h.Ns mainGlobals mg) (hfa : mg ("law" : Str) = some (.ref f)) (c : He.SaysD fa fn K) :
    ∃ fd : FuncData, (∀ (s : Shared) (v : Value), BindsTo s fd ⟨[v], []⟩ [("_law_script", v)]) ∧ ∀ base : Heap, K.In base → base.Ns mainGlobals mg → FnOk P w K mg base CX0 4 f fd ["_law_script"] (fun vs H Q _ => spM K none 1 0 (pureF f_law) vs H Q (fun _ _ _ => False)) := by
  obtain ⟨fd_greatest_part, F_greatest_part⟩ := c.def_ 0 (d := d_greatest_part) rfl
  obtain ⟨fd_lowest, F_lowest⟩ := c.def_ 1 (d := d_lowest) rfl
  obtain ⟨fd_plus, F_plus⟩ := c.def_ 2 (d := d_plus) rfl
  obtain ⟨fd_times, F_times⟩ := c.def_ 3 (d := d_times) rfl
  obtain ⟨fd_less_than, F_less_than⟩ := c.def_ 4 (d := d_less_than) rfl
  obtain ⟨fd__law_next, F__law_next⟩ := c.def_ 5 (d := d__law_next) rfl
  obtain ⟨fd__law_fraction, F__law_fraction⟩ := c.def_ 6 (d := d__law_fraction) rfl
  obtain ⟨fd__law_part, F__law_part⟩ := c.def_ 7 (d := d__law_part) rfl
  obtain ⟨fd__law_equal, F__law_equal⟩ := c.def_ 8 (d := d__law_equal) rfl
  obtain ⟨fd__law_same, F__law_same⟩ := c.def_ 9 (d := d__law_same) rfl
  obtain ⟨fd_law, F_law⟩ := c.def_ 10 (d := d_law) rfl
  have e := hfa.symm.trans (He.glo_ok X G (c.fact 10 (f := .glo "law") rfl))
  cases e
  have b := FunD.bindsA (ps := ["_law_script"]) F_law fun _ _ _ _ _ _ us hl => match us, hl with | [_], _ => rfl
  have bl : BF mg := ⟨He.free_ok X G (c.fact 11 (f := .free "abs") rfl), He.free_ok X G (c.fact 12 (f := .free "all") rfl), He.free_ok X G (c.fact 13 (f := .free "bool") rfl), He.free_ok X G (c.fact 14 (f := .free "dict") rfl), He.free_ok X G (c.fact 15 (f := .free "divmod") rfl), He.free_ok X G (c.fact 16 (f := .free "int") rfl), He.free_ok X G (c.fact 17 (f := .free "isinstance") rfl), He.free_ok X G (c.fact 18 (f := .free "len") rfl), He.free_ok X G (c.fact 19 (f := .free "list") rfl), He.free_ok X G (c.fact 20 (f := .free "range") rfl), He.free_ok X G (c.fact 21 (f := .free "str") rfl), He.free_ok X G (c.fact 22 (f := .free "tuple") rfl), He.free_ok X G (c.fact 23 (f := .free "zip") rfl)⟩
  refine ⟨fd_law, fun s v => b s [v] rfl, fun base _ _ => ?_⟩
  have A_greatest_part := ok_greatest_part (P := P) (w := w) (base := base) F_greatest_part (He.glo_ok X G (c.fact 0 (f := .glo "greatest_part") rfl)) bl 
  have A_lowest := ok_lowest (P := P) (w := w) (base := base) F_lowest (He.glo_ok X G (c.fact 1 (f := .glo "lowest") rfl)) bl A_greatest_part
  have A_plus := ok_plus (P := P) (w := w) (base := base) F_plus (He.glo_ok X G (c.fact 2 (f := .glo "plus") rfl)) bl A_lowest
  have A_times := ok_times (P := P) (w := w) (base := base) F_times (He.glo_ok X G (c.fact 3 (f := .glo "times") rfl)) bl A_lowest
  have A_less_than := ok_less_than (P := P) (w := w) (base := base) F_less_than (He.glo_ok X G (c.fact 4 (f := .glo "less_than") rfl)) bl 
  have A__law_next := ok__law_next (P := P) (w := w) (base := base) F__law_next (He.glo_ok X G (c.fact 5 (f := .glo "_law_next") rfl)) bl 
  have A__law_fraction := ok__law_fraction (P := P) (w := w) (base := base) F__law_fraction (He.glo_ok X G (c.fact 6 (f := .glo "_law_fraction") rfl)) bl A__law_next
  have A__law_part := ok__law_part (P := P) (w := w) (base := base) F__law_part (He.glo_ok X G (c.fact 7 (f := .glo "_law_part") rfl)) bl 
  have A__law_equal := ok__law_equal (P := P) (w := w) (base := base) F__law_equal (He.glo_ok X G (c.fact 8 (f := .glo "_law_equal") rfl)) bl A__law_part
  have A__law_same := ok__law_same (P := P) (w := w) (base := base) F__law_same (He.glo_ok X G (c.fact 9 (f := .glo "_law_same") rfl)) bl  2
  exact fn_law (fk_law (P := P) (w := w) (base := base) F_law (He.glo_ok X G (c.fact 10 (f := .glo "law") rfl)) bl A__law_equal A__law_fraction A__law_next A__law_same A_less_than A_lowest A_plus A_times)
end K01
open PySem PySem.W PySem.Calls PyProof.Rows
theorem PySem.Challenge.cw_gapweave_k01_fractions_holds : PySem.Challenge.rw_gapweave_k01_fractions.Holds := by
  w_on; o_law
  refine HandSHeadRun.head_any (r := OpenLaw.row PySem.Challenge.rw_gapweave_k01_fractions) (q := view (OpenLaw.row PySem.Challenge.rw_gapweave_k01_fractions).prog [12]) (H := K01.hk) (ob := K01.ob) (M := 400) (loose := ["__name__", "greatest_part", "lowest", "plus", "times", "less_than", "__name__", "_law_next", "_law_fraction", "_law_part", "_law_equal", "_law_same"]) (d := HandSHeadRun.topDef (OpenLaw.row PySem.Challenge.rw_gapweave_k01_fractions).prog 12) (kwd := []) K01.ob_eq
    (by kernel_rfl) (fun s => by kernel_rfl) K01.run (by kernel_rfl) (by kernel_rfl) (by kernel_rfl) (by rfl) (by first | assumption | decide +kernel) (by decide +kernel) ⟨rfl, rfl, rfl, rfl, rfl, by decide +kernel⟩ ?hw ?hc
  case hw => w_witness2
  case hc =>
    refine L2.walk_ofE (l := PySem.Challenge.rw_gapweave_k01_fractions) (n := 63) (k := 4) (x := "_law_script") (CX := L2.CX0) rfl (by decide) (by kernel_rfl) ⟨rfl, by decide, by decide⟩ ?F (fun _ _ _ _ z => z)
    intro w mg fa h Y G hmg0
    obtain ⟨K, KX, c⟩ := Y
    have hmg : mg ("law" : PySem.Str) = some (.ref fa) := by
      have e : (HandSHeadRun.topDef (OpenLaw.row PySem.Challenge.rw_gapweave_k01_fractions).prog 12).name = ("law" : PySem.Str) := by kernel_rfl
      rw [← e]
      exact hmg0
    obtain ⟨fd, hb, hF⟩ := K01.facts (P := (PySem.Challenge.rw_gapweave_k01_fractions).prog) (w := w) KX G hmg c
    exact ⟨K, fd, fun vs H Q _ => GW.spM K none 1 0 (GW.pureF K01.f_law) vs H Q (fun _ _ _ => False), KX, hb, fun H a ns hl _ hS => GW.law_call (K01.law_eval ns) hS, hF⟩
