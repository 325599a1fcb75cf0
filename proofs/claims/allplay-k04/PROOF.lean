import PyProof.Rows.All
import Wide.All
import OpenK.AllK
import Wide.FinOn
import HandS.ForMost
import HandS.Wide
import HandS.NoneIn
import HandS.IsInst
import HandS.Flow
import HandS.DictComp
import HandS.TupLen
import HandS.Conv
import HandS.More
import HandS.Small
import KE.KDictIter
import HandS.IterVal
import KE.KOwnIter
import KE.SortData
import HandS.SortInts
import HandS.Style
import HandS.ListItems
import KE.KDictSum
import PyProof.ListStr
import HandS.Zip
import PySem.Challenge.RW_allplay_k04_whole_scores_told
set_option Elab.async false
set_option linter.all false
set_option maxRecDepth 100000
/-! A layer over HandS: data, what stands for it in the heap, and expressions, statements that compute Lean functions of the slots. -/
namespace Al
open PySem PySem.Spec PyProof.Rows L2
abbrev St := L2.St

/-! ### data -/
inductive D where
  | non | bl (b : Bool) | int (i : Int) | str (s : Str)
  | lst (xs : List D) | tup (xs : List D)
  | dk (kvs : List (Key × D)) | dt (kvs : List (List Key × D))
  | ins (c : Nat) (fs : List (Str × D))
abbrev CM := Nat → Addr
section
variable (cm : CM) (G : Hp)
mutual
def Rep : D → V → Prop
  | .non, v => v = .non
  | .bl b, v => v = .bl b
  | .int i, v => v = .int i
  | .str s, v => v = .str s
  | .lst ds, v => ∃ p u, v = .ref p ∧ G p = some u ∧ ∃ vs, u = .lst vs ∧ Reps ds vs
  | .tup ds, v => ∃ p u, v = .ref p ∧ G p = some u ∧ ∃ vs, u = .tup vs ∧ Reps ds vs
  | .dk ds, v => ∃ p u, v = .ref p ∧ G p = some u ∧ ∃ vs, u = .dK vs ∧ RepK ds vs
  | .dt ds, v => ∃ p u, v = .ref p ∧ G p = some u ∧ ∃ vs, u = .dT vs ∧ RepD ds vs
  | .ins c ds, v => ∃ p u, v = .ref p ∧ G p = some u ∧ ∃ dx vs, u = .ins (cm c) dx vs ∧ RepF ds vs
termination_by structural d => d
def Reps : List D → List V → Prop
  | [], vs => vs = []
  | d :: ds, vs => ∃ v r, vs = v :: r ∧ Rep d v ∧ Reps ds r
termination_by structural d => d
def RepK : List (Key × D) → List (Key × V) → Prop
  | [], vs => vs = []
  | (k, d) :: ds, vs => ∃ v r, vs = (k, v) :: r ∧ Rep d v ∧ RepK ds r
termination_by structural d => d
def RepD : List (List Key × D) → List (List Key × V) → Prop
  | [], vs => vs = []
  | (k, d) :: ds, vs => ∃ v r, vs = (k, v) :: r ∧ Rep d v ∧ RepD ds r
termination_by structural d => d
def RepF : List (Str × D) → List (Str × V) → Prop
  | [], vs => vs = []
  | (k, d) :: ds, vs => ∃ v r, vs = (k, v) :: r ∧ Rep d v ∧ RepF ds r
termination_by structural d => d
end
/-- an object that is d, its parts in G -/
def ObjR : D → HO → Prop
  | .lst ds, u => ∃ vs, u = .lst vs ∧ Reps cm G ds vs
  | .tup ds, u => ∃ vs, u = .tup vs ∧ Reps cm G ds vs
  | .dk ds, u => ∃ vs, u = .dK vs ∧ RepK cm G ds vs
  | .dt ds, u => ∃ vs, u = .dT vs ∧ RepD cm G ds vs
  | .ins c ds, u => ∃ dx vs, u = .ins (cm c) dx vs ∧ RepF cm G ds vs
  | _, _ => False
end
def Le (G G' : Hp) : Prop := ∀ p u, G p = some u → G' p = some u
theorem Le.rfl {G : Hp} : Le G G := fun _ _ h => h
theorem Le.trans {G G1 G2 : Hp} (a : Le G G1) (b : Le G1 G2) : Le G G2 := fun p u h => b p u (a p u h)
theorem Le.upd {G : Hp} {p : Addr} {o : HO} (h : G p = none) : Le G (upd G p o) := fun q u e => by rw [upd_ne (ne_of_none e h)]; exact e
theorem Le.none {G G' : Hp} {p : Addr} (h : Le G G') (e : G' p = none) : G p = none := by
  cases q : G p with
  | none => rfl
  | some u => rw [h p u q] at e; cases e
mutual
theorem Rep.mono {cm : CM} {G G' : Hp} (h : Le G G') : ∀ (d : D) (v : V), Rep cm G d v → Rep cm G' d v
  | .non, _, r => r
  | .bl _, _, r => r
  | .int _, _, r => r
  | .str _, _, r => r
  | .lst ds, _, ⟨p, u, e, g, vs, e2, r⟩ => ⟨p, u, e, h _ _ g, vs, e2, Reps.mono h ds vs r⟩
  | .tup ds, _, ⟨p, u, e, g, vs, e2, r⟩ => ⟨p, u, e, h _ _ g, vs, e2, Reps.mono h ds vs r⟩
  | .dk ds, _, ⟨p, u, e, g, vs, e2, r⟩ => ⟨p, u, e, h _ _ g, vs, e2, RepK.mono h ds vs r⟩
  | .dt ds, _, ⟨p, u, e, g, vs, e2, r⟩ => ⟨p, u, e, h _ _ g, vs, e2, RepD.mono h ds vs r⟩
  | .ins _ ds, _, ⟨p, u, e, g, dx, vs, e2, r⟩ => ⟨p, u, e, h _ _ g, dx, vs, e2, RepF.mono h ds vs r⟩
termination_by structural d => d
theorem Reps.mono {cm : CM} {G G' : Hp} (h : Le G G') : ∀ (ds : List D) (vs : List V), Reps cm G ds vs → Reps cm G' ds vs
  | [], _, r => r
  | d :: ds, _, ⟨v, t, e, a, b⟩ => ⟨v, t, e, Rep.mono h d v a, Reps.mono h ds t b⟩
termination_by structural d => d
theorem RepK.mono {cm : CM} {G G' : Hp} (h : Le G G') : ∀ (ds : List (Key × D)) (vs : List (Key × V)), RepK cm G ds vs → RepK cm G' ds vs
  | [], _, r => r
  | (_, d) :: ds, _, ⟨v, t, e, a, b⟩ => ⟨v, t, e, Rep.mono h d v a, RepK.mono h ds t b⟩
termination_by structural d => d
theorem RepD.mono {cm : CM} {G G' : Hp} (h : Le G G') : ∀ (ds : List (List Key × D)) (vs : List (List Key × V)), RepD cm G ds vs → RepD cm G' ds vs
  | [], _, r => r
  | (_, d) :: ds, _, ⟨v, t, e, a, b⟩ => ⟨v, t, e, Rep.mono h d v a, RepD.mono h ds t b⟩
termination_by structural d => d
theorem RepF.mono {cm : CM} {G G' : Hp} (h : Le G G') : ∀ (ds : List (Str × D)) (vs : List (Str × V)), RepF cm G ds vs → RepF cm G' ds vs
  | [], _, r => r
  | (_, d) :: ds, _, ⟨v, t, e, a, b⟩ => ⟨v, t, e, Rep.mono h d v a, RepF.mono h ds t b⟩
termination_by structural d => d
end
theorem ObjR.mono {cm : CM} {G G' : Hp} (h : Le G G') : ∀ {d : D} {u : HO}, ObjR cm G d u → ObjR cm G' d u
  | .lst ds, _, ⟨vs, e, r⟩ => ⟨vs, e, Reps.mono h ds vs r⟩
  | .tup ds, _, ⟨vs, e, r⟩ => ⟨vs, e, Reps.mono h ds vs r⟩
  | .dk ds, _, ⟨vs, e, r⟩ => ⟨vs, e, RepK.mono h ds vs r⟩
  | .dt ds, _, ⟨vs, e, r⟩ => ⟨vs, e, RepD.mono h ds vs r⟩
  | .ins _ ds, _, ⟨dx, vs, e, r⟩ => ⟨dx, vs, e, RepF.mono h ds vs r⟩
  | .non, _, h => h.elim
  | .bl _, _, h => h.elim
  | .int _, _, h => h.elim
  | .str _, _, h => h.elim
theorem ObjR.rep {cm : CM} {G : Hp} {p : Addr} {u : HO} (hp : G p = some u) : ∀ {d : D}, ObjR cm G d u → Rep cm G d (.ref p)
  | .lst _, r => ⟨p, u, rfl, hp, r⟩
  | .tup _, r => ⟨p, u, rfl, hp, r⟩
  | .dk _, r => ⟨p, u, rfl, hp, r⟩
  | .dt _, r => ⟨p, u, rfl, hp, r⟩
  | .ins _ _, r => ⟨p, u, rfl, hp, r⟩
  | .non, r => r.elim
  | .bl _, r => r.elim
  | .int _, r => r.elim
  | .str _, r => r.elim
theorem Rep.obj {cm : CM} {G : Hp} {v : V} {p : Addr} : ∀ {d : D}, Rep cm G d v → v = .ref p → ∃ u, G p = some u ∧ ObjR cm G d u
  | .lst _, ⟨q, u, e, g, r⟩, h => by rw [e] at h; cases h; exact ⟨u, g, r⟩
  | .tup _, ⟨q, u, e, g, r⟩, h => by rw [e] at h; cases h; exact ⟨u, g, r⟩
  | .dk _, ⟨q, u, e, g, r⟩, h => by rw [e] at h; cases h; exact ⟨u, g, r⟩
  | .dt _, ⟨q, u, e, g, r⟩, h => by rw [e] at h; cases h; exact ⟨u, g, r⟩
  | .ins _ _, ⟨q, u, e, g, r⟩, h => by rw [e] at h; cases h; exact ⟨u, g, r⟩
  | .non, r, h => by have r' : v = .non := r; rw [r'] at h; cases h
  | .bl _, r, h => by have r' : v = .bl _ := r; rw [r'] at h; cases h
  | .int _, r, h => by have r' : v = .int _ := r; rw [r'] at h; cases h
  | .str _, r, h => by have r' : v = .str _ := r; rw [r'] at h; cases h
theorem Reps.len {cm : CM} {G : Hp} : ∀ {ds : List D} {vs : List V}, Reps cm G ds vs → vs.length = ds.length
  | [], _, r => by obtain rfl : _ = [] := r; rfl
  | _ :: ds, _, ⟨v, t, e, _, b⟩ => by rw [e, List.length_cons, List.length_cons, Reps.len b]
theorem RepK.len {cm : CM} {G : Hp} : ∀ {ds : List (Key × D)} {vs : List (Key × V)}, RepK cm G ds vs → vs.length = ds.length
  | [], _, r => by obtain rfl : _ = [] := r; rfl
  | _ :: ds, _, ⟨v, t, e, _, b⟩ => by rw [e, List.length_cons, List.length_cons, RepK.len b]
theorem RepD.len {cm : CM} {G : Hp} : ∀ {ds : List (List Key × D)} {vs : List (List Key × V)}, RepD cm G ds vs → vs.length = ds.length
  | [], _, r => by obtain rfl : _ = [] := r; rfl
  | _ :: ds, _, ⟨v, t, e, _, b⟩ => by rw [e, List.length_cons, List.length_cons, RepD.len b]
theorem Reps.get {cm : CM} {G : Hp} : ∀ {ds : List D} {vs : List V} {i : Nat} {d : D}, Reps cm G ds vs → ds[i]? = some d → ∃ v, vs[i]? = some v ∧ Rep cm G d v
  | [], _, _, _, _, h => by simp at h
  | d :: ds, _, 0, _, ⟨v, t, e, a, _⟩, h => by
    simp at h; subst h; subst e
    exact ⟨v, by simp, a⟩
  | _ :: ds, _, i + 1, d, ⟨v, t, e, _, b⟩, h => by
    subst e
    obtain ⟨w, h1, h2⟩ := Reps.get (i := i) b (by simpa using h)
    exact ⟨w, by simpa using h1, h2⟩
theorem Reps.app {cm : CM} {G : Hp} : ∀ {ds es : List D} {vs ws : List V}, Reps cm G ds vs → Reps cm G es ws → Reps cm G (ds ++ es) (vs ++ ws)
  | [], _, _, _, r, q => by have r' : _ = [] := r; rw [r']; exact q
  | _ :: ds, _, _, _, ⟨v, t, e, a, b⟩, q => by subst e; exact ⟨v, _, rfl, a, Reps.app b q⟩
theorem Reps.one {cm : CM} {G : Hp} {d : D} {v : V} (h : Rep cm G d v) : Reps cm G [d] [v] := ⟨v, [], rfl, h, rfl⟩
theorem Reps.set {cm : CM} {G : Hp} {d : D} {v : V} (h : Rep cm G d v) : ∀ {ds : List D} {vs : List V} (i : Nat), Reps cm G ds vs → Reps cm G (ds.set i d) (vs.set i v)
  | [], _, _, r => by have r' : _ = [] := r; rw [r']; exact rfl
  | _ :: ds, _, 0, ⟨w, t, e, _, b⟩ => by subst e; exact ⟨v, t, rfl, h, b⟩
  | _ :: ds, _, i + 1, ⟨w, t, e, a, b⟩ => by subst e; exact ⟨w, _, rfl, a, Reps.set h i b⟩

/-! ### worlds -/
def lkd (lk : Addr → Option Obj) (p : Addr) (u : HO) : HO := match lk p with | none => u | some o => .frz o u
def Lockable : HO → Prop
  | .dK _ => True
  | .dT _ => True
  | _ => False
structure Spr where
  a : Int
  b : Int
  c : Int
def Spr.ho (s : Spr) : HO := .lst [.int s.a, .int s.b, .int s.c]
/-- G: what stands still and is read; F: what is to be there behind; the rest of H does not matter; S: the spring at sp -/
structure WR (lk : Addr → Option Obj) (sp : Addr) (G F H : Hp) (S : Option Spr) : Prop where
  gh : ∀ p u, G p = some u → H p = some (lkd lk p u)
  fh : ∀ p u, F p = some u → H p = some u
  fg : ∀ p u, F p = some u → G p = none
  lg : ∀ p o, lk p = some o → ∃ u, G p = some u ∧ Lockable u
  sp : ∀ s, S = some s → H sp = some s.ho ∧ G sp = none ∧ F sp = none
  ft : ∀ p xs, F p ≠ some (.tup xs)
section
variable {cm : CM} {lk : Addr → Option Obj} {sp : Addr} {G F H : Hp} {S : Option Spr} {p : Addr} {u o : HO}
theorem WR.rd (w : WR lk sp G F H S) (h : G p = some u) : Rd H p u := by
  have e := w.gh p u h
  unfold lkd at e
  cases q : lk p with
  | none => rw [q] at e; exact .inl e
  | some o => rw [q] at e; exact .inr ⟨o, e⟩
theorem WR.nl (w : WR lk sp G F H S) (h : G p = none) : lk p = none := by
  cases q : lk p with
  | none => rfl
  | some o =>
    obtain ⟨u, e, _⟩ := w.lg p o q
    rw [h] at e; cases e
theorem WR.pl (w : WR lk sp G F H S) (h : G p = some u) (hu : ¬ Lockable u) : H p = some u := by
  have e := w.gh p u h
  unfold lkd at e
  cases q : lk p with
  | none => rw [q] at e; exact e
  | some o =>
    obtain ⟨u', e', l⟩ := w.lg p o q
    rw [h] at e'; cases e'
    exact absurd l hu
theorem WR.gn (w : WR lk sp G F H S) (h : H p = none) : G p = none := by
  cases q : G p with
  | none => rfl
  | some u => have e := w.gh p u q; rw [h] at e; cases e
theorem WR.fn (w : WR lk sp G F H S) (h : H p = none) : F p = none := by
  cases q : F p with
  | none => rfl
  | some u => have e := w.fh p u q; rw [h] at e; cases e
theorem WR.spn (w : WR lk sp G F H S) (h : H p = none) : ∀ s, S = some s → p ≠ sp := fun s e z => by
  have q := (w.sp s e).1
  rw [← z, h] at q; cases q
/-- a new object -/
theorem WR.new (w : WR lk sp G F H S) (h : H p = none) : WR lk sp G F (upd H p o) S :=
  ⟨fun q u e => by rw [upd_ne (ne_of_none (w.gh q u e) h)]; exact w.gh q u e, fun q u e => by rw [upd_ne (ne_of_none (w.fh q u e) h)]; exact w.fh q u e, w.fg, w.lg,
    fun s e => ⟨by rw [upd_ne (w.spn h s e).symm]; exact (w.sp s e).1, (w.sp s e).2⟩, w.ft⟩
/-- an object comes to stand still -/
theorem WR.still (w : WR lk sp G F H S) (h : H p = some u) (hg : G p = none) (hf : F p = none) (hs : ∀ s, S = some s → p ≠ sp) : WR lk sp (upd G p u) F H S :=
  ⟨fun q v e => by
    by_cases z : q = p
    · subst z
      rw [upd_same] at e; cases e
      unfold lkd
      rw [w.nl hg]; exact h
    · rw [upd_ne z] at e; exact w.gh q v e,
   w.fh, fun q v e => by rw [upd_ne (ne_of_none e hf)]; exact w.fg q v e,
   fun q o e => by
    obtain ⟨v, e1, l⟩ := w.lg q o e
    exact ⟨v, by rw [upd_ne (ne_of_none e1 hg)]; exact e1, l⟩,
   fun s e => ⟨(w.sp s e).1, by rw [upd_ne (hs s e).symm]; exact (w.sp s e).2.1, (w.sp s e).2.2⟩, w.ft⟩
/-- an object is to be there behind -/
theorem WR.keep (w : WR lk sp G F H S) (h : H p = some u) (hg : G p = none) (hs : ∀ s, S = some s → p ≠ sp) (nt : ∀ xs, u ≠ .tup xs) : WR lk sp G (upd F p u) H S :=
  ⟨w.gh, fun q v e => by
    by_cases z : q = p
    · subst z; rw [upd_same] at e; cases e; exact h
    · rw [upd_ne z] at e; exact w.fh q v e,
   fun q v e => by
    by_cases z : q = p
    · subst z; exact hg
    · rw [upd_ne z] at e; exact w.fg q v e, w.lg,
   fun s e => ⟨(w.sp s e).1, (w.sp s e).2.1, by rw [upd_ne (hs s e).symm]; exact (w.sp s e).2.2⟩,
   fun q xs e => by
    by_cases z : q = p
    · subst z; rw [upd_same] at e; cases e; exact nt xs rfl
    · rw [upd_ne z] at e; exact w.ft q xs e⟩
theorem WR.lessF {F0 : Hp} (l : Le F0 F) (w : WR lk sp G F H S) : WR lk sp G F0 H S :=
  ⟨w.gh, fun p u e => w.fh p u (l p u e), fun p u e => w.fg p u (l p u e), w.lg, fun s e => ⟨(w.sp s e).1, (w.sp s e).2.1, l.none (w.sp s e).2.2⟩, fun p xs e => w.ft p xs (l p _ e)⟩
/-- no spring -/
theorem WR.noS (w : WR lk sp G F H S) : WR lk sp G F H none := ⟨w.gh, w.fh, w.fg, w.lg, (fun s e => nomatch e), w.ft⟩
end

/-! ### slots -/
inductive Cell where
  | no | frz (d : D) | own (d : D) | own2 (ds : List (Key × D)) | spr | raw (v : V)
structure En where
  S : Option Spr
  cs : List Cell
  /-- what stands still from the start on -/
  B : Hp
def En.st (e : En) (S : Option Spr) : En := { e with S := S }
structure Rs where
  d : D
  own : Bool
abbrev fz (d : D) : Rs := ⟨d, false⟩
abbrev nw (d : D) : Rs := ⟨d, true⟩
/-- values that are own things -/
def Rep2 (cm : CM) (G F : Hp) : List (Key × D) → List (Key × V) → Prop
  | [], vs => vs = []
  | (k, d) :: ds, vs => ∃ q u r, vs = (k, V.ref q) :: r ∧ F q = some u ∧ ObjR cm G d u ∧ (∀ k', (k', V.ref q) ∉ r) ∧ Rep2 cm G F ds r
def CellR (cm : CM) (sp : Addr) (G F : Hp) (o : Option V) : Cell → Prop
  | .no => True
  | .frz d => ∃ v, o = some v ∧ Rep cm G d v
  | .own d => ∃ p u, o = some (.ref p) ∧ F p = some u ∧ ObjR cm G d u
  | .own2 ds => ∃ p vs, o = some (.ref p) ∧ F p = some (.dK vs) ∧ (∀ k, (k, V.ref p) ∉ vs) ∧ Rep2 cm G F ds vs
  | .spr => o = some (.ref sp)
  | .raw v => o = some v
/-- what a slot owns -/
def Ft (F : Hp) (o : Option V) : Cell → Addr → Prop
  | .own _, p => o = some (.ref p)
  | .own2 _, p => o = some (.ref p) ∨ ∃ q vs k, o = some (.ref q) ∧ F q = some (.dK vs) ∧ (k, V.ref p) ∈ vs
  | _, _ => False
def CellsR (cm : CM) (sp : Addr) (G F : Hp) (σ : St) (cs : List Cell) : Prop := ∀ (i : Nat) (c : Cell), cs[i]? = some c → ∃ o : Option V, σ[i]? = some o ∧ CellR cm sp G F o c
/-- own things stand apart -/
def Sep (F : Hp) (σ : St) (cs : List Cell) : Prop := ∀ (i j : Nat) (c c' : Cell) (o o' : Option V) (p : Addr), i ≠ j → cs[i]? = some c → cs[j]? = some c' → σ[i]? = some o → σ[j]? = some o' → Ft F o c p → Ft F o' c' p → False
/-- .. out of F0 -/
def Out (F F0 : Hp) (σ : St) (cs : List Cell) : Prop := ∀ (i : Nat) (c : Cell) (o : Option V) (p : Addr), cs[i]? = some c → σ[i]? = some o → Ft F o c p → F0 p = none
structure ER (cm : CM) (lk : Addr → Option Obj) (sp : Addr) (G F H : Hp) (σ : St) (e : En) : Prop where
  w : WR lk sp G F H e.S
  c : CellsR cm sp G F σ e.cs
  s : Sep F σ e.cs
  b : Le e.B G
/-- read, not kept -/
def RepT (cm : CM) (G F : Hp) (d : D) (v : V) : Prop := Rep cm G d v ∨ ∃ p u, v = .ref p ∧ F p = some u ∧ ObjR cm G d u
def ResR (cm : CM) (sp : Addr) (S : Option Spr) (G F H : Hp) (v : V) (r : Rs) : Prop :=
  if r.own = true then ∃ p u, v = .ref p ∧ H p = some u ∧ ObjR cm G r.d u ∧ G p = none ∧ F p = none ∧ (∀ s, S = some s → p ≠ sp) ∧ ∀ xs, u ≠ .tup xs else Rep cm G r.d v
section
variable {cm : CM} {lk : Addr → Option Obj} {sp : Addr} {G G' F F' H H' : Hp} {S S' : Option Spr} {σ : St} {e : En} {d : D} {v : V} {r : Rs}
theorem Rep2.mono (g : Le G G') (f : Le F F') : ∀ {ds : List (Key × D)} {vs : List (Key × V)}, Rep2 cm G F ds vs → Rep2 cm G' F' ds vs
  | [], _, r => r
  | _ :: _, _, ⟨q, u, t, e, h, o, n, b⟩ => ⟨q, u, t, e, f q u h, o.mono g, n, Rep2.mono g f b⟩
theorem Rep2.some : ∀ {ds : List (Key × D)} {vs : List (Key × V)}, Rep2 cm G F ds vs → ∀ k p, (k, V.ref p) ∈ vs → ∃ u, F p = some u
  | [], _, r, k, p, h => by have r' : _ = [] := r; rw [r'] at h; cases h
  | _ :: _, _, ⟨q, u, t, e, h, o, n, b⟩, k, p, m => by
    rw [e] at m
    rcases List.mem_cons.mp m with z | z
    · cases z; exact ⟨u, h⟩
    · exact Rep2.some b k p z
theorem Ft.some {o : Option V} {p : Addr} : ∀ {c : Cell}, CellR cm sp G F o c → Ft F o c p → ∃ u, F p = some u
  | .own _, ⟨q, u, e, h, _⟩, z => by have z' : o = Option.some (.ref p) := z; rw [e] at z'; cases z'; exact ⟨u, h⟩
  | .own2 _, ⟨q, vs, e, h, n, r⟩, z => by
    rcases z with z | ⟨q', vs', k, z, h', m⟩
    · rw [e] at z; cases z; exact ⟨_, h⟩
    · rw [e] at z; cases z
      rw [h] at h'; cases h'
      exact r.some k p m
  | .no, _, z => z.elim
  | .frz _, _, z => z.elim
  | .spr, _, z => z.elim
  | .raw _, _, z => z.elim
theorem Ft.back {o : Option V} {p : Addr} (f : Le F F') : ∀ {c : Cell}, CellR cm sp G F o c → Ft F' o c p → Ft F o c p
  | .own _, _, z => z
  | .own2 _, ⟨q, vs, e, h, n, r⟩, z => by
    rcases z with z | ⟨q', vs', k, z, h', m⟩
    · exact .inl z
    · rw [e] at z; cases z
      rw [f _ _ h] at h'; cases h'
      exact .inr ⟨_, _, k, e, h, m⟩
  | .no, _, z => z
  | .frz _, _, z => z
  | .spr, _, z => z
  | .raw _, _, z => z
theorem Sep.up {cs : List Cell} (f : Le F F') (c : CellsR cm sp G F σ cs) (s : Sep F σ cs) : Sep F' σ cs := fun i j c1 c2 o1 o2 p hij a1 a2 b1 b2 f1 f2 => by
  obtain ⟨o, k1, k2⟩ := c i c1 a1
  rw [b1] at k1; cases k1
  obtain ⟨o, l1, l2⟩ := c j c2 a2
  rw [b2] at l1; cases l1
  exact s i j c1 c2 o1 o2 p hij a1 a2 b1 b2 (Ft.back f k2 f1) (Ft.back f l2 f2)
theorem Out.up {F0 : Hp} {cs : List Cell} (f : Le F F') (c : CellsR cm sp G F σ cs) (s : Out F F0 σ cs) : Out F' F0 σ cs := fun i c1 o p a1 b1 f1 => by
  obtain ⟨o, k1, k2⟩ := c i c1 a1
  rw [b1] at k1; cases k1
  exact s i c1 _ p a1 b1 (Ft.back f k2 f1)
theorem CellR.mono {o : Option V} (g : Le G G') (f : Le F F') : ∀ {c : Cell}, CellR cm sp G F o c → CellR cm sp G' F' o c
  | .no, _ => trivial
  | .frz d, ⟨v, e, r⟩ => ⟨v, e, Rep.mono g d v r⟩
  | .own d, ⟨p, u, e, h, r⟩ => ⟨p, u, e, f p u h, ObjR.mono g r⟩
  | .own2 ds, ⟨p, vs, e, h, n, r⟩ => ⟨p, vs, e, f _ _ h, n, r.mono g f⟩
  | .spr, h => h
  | .raw _, h => h
theorem CellsR.mono {cs : List Cell} (g : Le G G') (f : Le F F') (h : CellsR cm sp G F σ cs) : CellsR cm sp G' F' σ cs := fun i c e =>
  let ⟨o, a, b⟩ := h i c e
  ⟨o, a, b.mono g f⟩
theorem ER.next (x : ER cm lk sp G F H σ e) (g : Le G G') (f : Le F F') (w : WR lk sp G' F' H' S') : ER cm lk sp G' F' H' σ (e.st S') := ⟨w, x.c.mono g f, x.s.up f x.c, x.b.trans g⟩
theorem RepT.mono (g : Le G G') (f : Le F F') : RepT cm G F d v → RepT cm G' F' d v
  | .inl r => .inl (Rep.mono g d v r)
  | .inr ⟨p, u, e, h, r⟩ => .inr ⟨p, u, e, f p u h, ObjR.mono g r⟩
theorem ResR.fz (h : Rep cm G d v) : ResR cm sp S G F H v (fz d) := by show (if false = true then _ else _); rw [if_neg Bool.false_ne_true]; exact h
theorem ResR.nw {p : Addr} {u : HO} (h : H p = some u) (r : ObjR cm G d u) (hg : G p = none) (hf : F p = none) (hs : ∀ s, S = some s → p ≠ sp) (nt : ∀ xs, u ≠ .tup xs := by intro _ z; cases z) : ResR cm sp S G F H (.ref p) (nw d) := by
  show (if true = true then _ else _); rw [if_pos rfl]; exact ⟨p, u, rfl, h, r, hg, hf, hs, nt⟩
/-- a result is read -/
theorem ResR.peek (w : WR lk sp G F H S) (h : ResR cm sp S G F H v r) : ∃ F', Le F F' ∧ WR lk sp G F' H S ∧ RepT cm G F' r.d v := by
  unfold ResR at h
  by_cases q : r.own = true
  · rw [if_pos q] at h
    obtain ⟨p, u, rfl, hp, ho, hg, hf, hs, nt⟩ := h
    exact ⟨upd F p u, Le.upd hf, w.keep hp hg hs nt, .inr ⟨p, u, rfl, upd_same, ho⟩⟩
  · rw [if_neg q] at h
    exact ⟨F, Le.rfl, w, .inl h⟩
/-- a result is kept for good -/
theorem ResR.freeze (w : WR lk sp G F H S) (h : ResR cm sp S G F H v r) : ∃ G', Le G G' ∧ WR lk sp G' F H S ∧ Rep cm G' r.d v := by
  unfold ResR at h
  by_cases q : r.own = true
  · rw [if_pos q] at h
    obtain ⟨p, u, rfl, hp, ho, hg, hf, hs, nt⟩ := h
    exact ⟨upd G p u, Le.upd hg, w.still hp hg hf hs, ObjR.rep upd_same (ho.mono (Le.upd hg))⟩
  · rw [if_neg q] at h
    exact ⟨G, Le.rfl, w, h⟩
end

/-! ### expressions -/
abbrev FE := En → Option (Rs × Option Spr)
abbrev PF := En → Option (D × Option Spr)
abbrev AF := En → Option (List D × Option Spr)
abbrev TF := En → Option (Bool × Option Spr)
def EOk (cm : CM) (t : TE) (f : FE) : Prop := ∀ lk sp G F H σ e r S', ER cm lk sp G F H σ e → f e = some (r, S') → ∀ Q : VK,
  (∀ G' H' v, Le G G' → WR lk sp G' F H' S' → ResR cm sp S' G' F H' v r → Q v H') → t σ H Q
def POk (cm : CM) (t : TE) (f : PF) : Prop := ∀ lk sp G F H σ e d S', ER cm lk sp G F H σ e → f e = some (d, S') → ∀ Q : VK,
  (∀ G' F' H' v, Le G G' → Le F F' → WR lk sp G' F' H' S' → RepT cm G' F' d v → Q v H') → t σ H Q
def RepTs (cm : CM) (G F : Hp) : List D → List V → Prop
  | [], vs => vs = []
  | d :: ds, vs => ∃ v r, vs = v :: r ∧ RepT cm G F d v ∧ RepTs cm G F ds r
def AOk (cm : CM) (t : TA) (f : AF) : Prop := ∀ lk sp G F H σ e ds S', ER cm lk sp G F H σ e → f e = some (ds, S') → ∀ Q : List V → Hp → Prop,
  (∀ G' F' H' vs, Le G G' → Le F F' → WR lk sp G' F' H' S' → RepTs cm G' F' ds vs → Q vs H') → t σ H Q
def KOk (cm : CM) (t : TA) (f : AF) : Prop := ∀ lk sp G F H σ e ds S', ER cm lk sp G F H σ e → f e = some (ds, S') → ∀ Q : List V → Hp → Prop,
  (∀ G' H' vs, Le G G' → WR lk sp G' F H' S' → Reps cm G' ds vs → Q vs H') → t σ H Q
def TOk (cm : CM) (t : TT) (f : TF) : Prop := ∀ lk sp G F H σ e b S', ER cm lk sp G F H σ e → f e = some (b, S') → ∀ Q : Bool → Hp → Prop,
  (∀ G' H', Le G G' → WR lk sp G' F H' S' → Q b H') → t σ H Q
theorem RepTs.mono {cm : CM} {G G' F F' : Hp} (g : Le G G') (f : Le F F') : ∀ {ds : List D} {vs : List V}, RepTs cm G F ds vs → RepTs cm G' F' ds vs
  | [], _, r => r
  | _ :: _, _, ⟨v, t, e, a, b⟩ => ⟨v, t, e, a.mono g f, RepTs.mono g f b⟩
def tE (cm : CM) (f : FE) : TE := fun σ H Q => ∃ lk sp G F e r S', ER cm lk sp G F H σ e ∧ f e = some (r, S') ∧ ∀ G' H' v, Le G G' → WR lk sp G' F H' S' → ResR cm sp S' G' F H' v r → Q v H'
def tP (cm : CM) (f : PF) : TE := fun σ H Q => ∃ lk sp G F e d S', ER cm lk sp G F H σ e ∧ f e = some (d, S') ∧ ∀ G' F' H' v, Le G G' → Le F F' → WR lk sp G' F' H' S' → RepT cm G' F' d v → Q v H'
def tA (cm : CM) (f : AF) : TA := fun σ H Q => ∃ lk sp G F e ds S', ER cm lk sp G F H σ e ∧ f e = some (ds, S') ∧ ∀ G' F' H' vs, Le G G' → Le F F' → WR lk sp G' F' H' S' → RepTs cm G' F' ds vs → Q vs H'
def tK (cm : CM) (f : AF) : TA := fun σ H Q => ∃ lk sp G F e ds S', ER cm lk sp G F H σ e ∧ f e = some (ds, S') ∧ ∀ G' H' vs, Le G G' → WR lk sp G' F H' S' → Reps cm G' ds vs → Q vs H'
def tT (cm : CM) (f : TF) : TT := fun σ H Q => ∃ lk sp G F e b S', ER cm lk sp G F H σ e ∧ f e = some (b, S') ∧ ∀ G' H', Le G G' → WR lk sp G' F H' S' → Q b H'
def JE (X : Cx) (cm : CM) (a : Expr) (f : FE) : Prop := PE X a (tE cm f)
def JP (X : Cx) (cm : CM) (a : Expr) (f : PF) : Prop := PE X a (tP cm f)
def JA (X : Cx) (cm : CM) (a : List Expr) (f : AF) : Prop := PA X a (tA cm f)
def JK (X : Cx) (cm : CM) (a : List Expr) (f : AF) : Prop := PA X a (tK cm f)
def JT (X : Cx) (cm : CM) (a : Expr) (f : TF) : Prop := PT X a (tT cm f)
def JW (X : Cx) (cm : CM) (a : Expr) (f : TF) : Prop := PW X a (tT cm f)
section
variable {X : Cx} {cm : CM} {a : Expr} {as : List Expr}
theorem JE.of {f : FE} : (∃ t, PE X a t ∧ EOk cm t f) → JE X cm a f := fun ⟨t, p, q⟩ => ⟨fun pins s σ H Q I ⟨lk, sp, G, F, e, r, S', x, hf, k⟩ => p.run pins s σ H Q I (q lk sp G F H σ e r S' x hf Q k)⟩
theorem JP.of {f : PF} : (∃ t, PE X a t ∧ POk cm t f) → JP X cm a f := fun ⟨t, p, q⟩ => ⟨fun pins s σ H Q I ⟨lk, sp, G, F, e, r, S', x, hf, k⟩ => p.run pins s σ H Q I (q lk sp G F H σ e r S' x hf Q k)⟩
theorem JA.of {f : AF} : (∃ t, PA X as t ∧ AOk cm t f) → JA X cm as f := fun ⟨t, p, q⟩ => ⟨fun pos pins s σ H Q I ⟨lk, sp, G, F, e, r, S', x, hf, k⟩ => p.run pos pins s σ H Q I (q lk sp G F H σ e r S' x hf Q k)⟩
theorem JK.of {f : AF} : (∃ t, PA X as t ∧ KOk cm t f) → JK X cm as f := fun ⟨t, p, q⟩ => ⟨fun pos pins s σ H Q I ⟨lk, sp, G, F, e, r, S', x, hf, k⟩ => p.run pos pins s σ H Q I (q lk sp G F H σ e r S' x hf Q k)⟩
theorem JT.of {f : TF} : (∃ t, PT X a t ∧ TOk cm t f) → JT X cm a f := fun ⟨t, p, q⟩ => ⟨fun pins s σ H Q I ⟨lk, sp, G, F, e, r, S', x, hf, k⟩ => p.run pins s σ H Q I (q lk sp G F H σ e r S' x hf Q k)⟩
theorem JW.of {f : TF} : (∃ t, PW X a t ∧ TOk cm t f) → JW X cm a f := fun ⟨t, p, q⟩ => ⟨fun wh pins s σ H Q I ⟨lk, sp, G, F, e, r, S', x, hf, k⟩ => p.run wh pins s σ H Q I (q lk sp G F H σ e r S' x hf Q k)⟩
theorem JE.ex {f : FE} (h : JE X cm a f) : ∃ t, PE X a t ∧ EOk cm t f := ⟨_, h, fun lk sp G F H σ e r S' x hf Q k => ⟨lk, sp, G, F, e, r, S', x, hf, k⟩⟩
theorem JP.ex {f : PF} (h : JP X cm a f) : ∃ t, PE X a t ∧ POk cm t f := ⟨_, h, fun lk sp G F H σ e r S' x hf Q k => ⟨lk, sp, G, F, e, r, S', x, hf, k⟩⟩
theorem JA.ex {f : AF} (h : JA X cm as f) : ∃ t, PA X as t ∧ AOk cm t f := ⟨_, h, fun lk sp G F H σ e r S' x hf Q k => ⟨lk, sp, G, F, e, r, S', x, hf, k⟩⟩
theorem JK.ex {f : AF} (h : JK X cm as f) : ∃ t, PA X as t ∧ KOk cm t f := ⟨_, h, fun lk sp G F H σ e r S' x hf Q k => ⟨lk, sp, G, F, e, r, S', x, hf, k⟩⟩
theorem JT.ex {f : TF} (h : JT X cm a f) : ∃ t, PT X a t ∧ TOk cm t f := ⟨_, h, fun lk sp G F H σ e r S' x hf Q k => ⟨lk, sp, G, F, e, r, S', x, hf, k⟩⟩
theorem JW.ex {f : TF} (h : JW X cm a f) : ∃ t, PW X a t ∧ TOk cm t f := ⟨_, h, fun lk sp G F H σ e r S' x hf Q k => ⟨lk, sp, G, F, e, r, S', x, hf, k⟩⟩
end

def pE (f : FE) : PF := fun e => (f e).map fun r => (r.1.d, r.2)
def fC (d : D) : FE := fun e => some (fz d, e.S)
def fVar (i : Nat) : FE := fun e => match e.cs[i]? with
  | some (.frz d) => some (fz d, e.S)
  | _ => none
def pVar (i : Nat) : PF := fun e => match e.cs[i]? with
  | some (.frz d) => some (d, e.S)
  | some (.own d) => some (d, e.S)
  | _ => none
section
variable {X : Cx} {cm : CM} {a b c : Expr} {f g : FE} {pos : Pos}
theorem EOk.p {t : TE} (h : EOk cm t f) : POk cm t (pE f) := fun lk sp G F H σ e d S' x hf Q q => by
  unfold pE at hf
  cases z : f e with
  | none => rw [z] at hf; cases hf
  | some r =>
    rw [z] at hf
    obtain ⟨r, S1⟩ := r
    cases hf
    refine h lk sp G F H σ e r S1 x z Q fun G' H' v g w r' => ?_
    obtain ⟨F', f', w', r2⟩ := r'.peek w
    exact q G' F' H' v g f' w' r2
theorem jp (h : JE X cm a f) : JP X cm a (pE f) := let ⟨t, p, q⟩ := h.ex; .of ⟨t, p, q.p⟩
theorem j_var (i : Nat) {x : Str} (hN : X.N[i]? = some x := by rfl) (hv : Vis X.env.scope x := by first | exact Or.inl rfl | exact Or.inr (Or.inl rfl) | exact Or.inr (Or.inr rfl)) (hd : (x == ("__debug__" : Str)) = false := by decide)
    (hcd : (x == ("__classdict__" : Str)) = false := by decide) : JE X cm (.Name x pos) (fVar i) := .of
  ⟨tVar i, pe_var hN hv hd hcd, fun lk sp G F H σ e r S' x hf Q q => by
    unfold fVar at hf
    split at hf
    · rename_i d hd
      cases hf
      obtain ⟨o, h1, v, h2, h3⟩ := x.c i _ hd
      subst h2
      exact ⟨v, h1, q G H v Le.rfl x.w (ResR.fz h3)⟩
    · cases hf⟩
theorem jp_var (i : Nat) {x : Str} (hN : X.N[i]? = some x := by rfl) (hv : Vis X.env.scope x := by first | exact Or.inl rfl | exact Or.inr (Or.inl rfl) | exact Or.inr (Or.inr rfl)) (hd : (x == ("__debug__" : Str)) = false := by decide)
    (hcd : (x == ("__classdict__" : Str)) = false := by decide) : JP X cm (.Name x pos) (pVar i) := .of
  ⟨tVar i, pe_var hN hv hd hcd, fun lk sp G F H σ e r S' x hf Q q => by
    unfold pVar at hf
    split at hf
    · rename_i d hd
      cases hf
      obtain ⟨o, h1, v, h2, h3⟩ := x.c i _ hd
      subst h2
      exact ⟨v, h1, q G F H v Le.rfl Le.rfl x.w (.inl h3)⟩
    · rename_i d hd
      cases hf
      obtain ⟨o, h1, p, u, h2, h3⟩ := x.c i _ hd
      subst h2
      exact ⟨.ref p, h1, q G F H _ Le.rfl Le.rfl x.w (.inr ⟨p, u, rfl, h3⟩)⟩
    · cases hf⟩
theorem ok_c {v : V} {d : D} (h : ∀ G, Rep cm G d v) : EOk cm (tC v) (fC d) := fun lk sp G F H σ e r S' x hf Q q => by
  cases hf
  exact q G H v Le.rfl x.w (ResR.fz (h G))
theorem j_int {i j} : JE X cm (.Constant (.int i) j pos) (fC (.int i)) := .of ⟨_, pe_int, ok_c fun _ => rfl⟩
theorem j_bl {i j} : JE X cm (.Constant (.bool i) j pos) (fC (.bl i)) := .of ⟨_, pe_bl, ok_c fun _ => rfl⟩
theorem j_non {j} : JE X cm (.Constant .none j pos) (fC .non) := .of ⟨_, pe_non, ok_c fun _ => rfl⟩
theorem j_str {i j} : JE X cm (.Constant (.str i) j pos) (fC (.str i)) := .of ⟨_, pe_str, ok_c fun _ => rfl⟩
/-- a module's constant -/
theorem j_glob {x : Str} {v : V} {d : D} {u : Value} (hm : X.mg x = some u) (r : RelV v u) (h : ∀ G, Rep cm G d v) (hg : Gl X x := by rfl) (hd : (x == ("__debug__" : Str)) = false := by decide) : JE X cm (.Name x pos) (fC d) := .of ⟨_, pe_glob hg hm r hd, ok_c h⟩

/-! operators -/
def fBin (g : D → D → Option Rs) (a b : PF) : FE := fun e => (a e).bind fun x => (b (e.st x.2)).bind fun y => (g x.1 y.1).map fun r => (r, y.2)
def OOk (cm : CM) (r : R2) (g : D → D → Option Rs) : Prop := ∀ lk sp G F H S dx dy x y res, WR lk sp G F H S → RepT cm G F dx x → RepT cm G F dy y → g dx dy = some res → ∀ Q : VK,
  (∀ G' H' v, Le G G' → WR lk sp G' F H' S → ResR cm sp S G' F H' v res → Q v H') → r x y H Q
def JO (X : Cx) (cm : CM) (f : Value → Value → Sem Value) (g : D → D → Option Rs) : Prop := ∃ r, OpR X f r ∧ OOk cm r g
def orG (g g' : D → D → Option Rs) : D → D → Option Rs := fun x y => (g x y).or (g' x y)
theorem JO.or {f : Value → Value → Sem Value} {g g' : D → D → Option Rs} (h : JO X cm f g) (h' : JO X cm f g') : JO X cm f (orG g g') := by
  obtain ⟨r, a, b⟩ := h
  obtain ⟨r', a', b'⟩ := h'
  refine ⟨_, OpR.or a a', fun lk sp G F H S dx dy x y res w rx ry hg Q q => ?_⟩
  unfold orG at hg
  cases z : g dx dy with
  | some t => rw [z] at hg; exact .inl (b lk sp G F H S dx dy x y res w rx ry (by rw [z]; exact hg) Q q)
  | none => rw [z] at hg; exact .inr (b' lk sp G F H S dx dy x y res w rx ry hg Q q)
theorem bin_ok {ta tb : TE} {r : R2} {g : D → D → Option Rs} {pa pb : PF} (h1 : POk cm ta pa) (h2 : POk cm tb pb) (h3 : OOk cm r g) : EOk cm (tOp r ta tb) (fBin g pa pb) := fun lk sp G F H σ e r S' x hf Q q => by
  unfold fBin at hf
  obtain ⟨⟨d1, S1⟩, z1, hf⟩ := Option.bind_eq_some_iff.mp hf
  obtain ⟨⟨d2, S2⟩, z2, hf⟩ := Option.bind_eq_some_iff.mp hf
  obtain ⟨r', z3, hf⟩ := Option.map_eq_some_iff.mp hf
  cases hf
  refine h1 lk sp G F H σ e d1 S1 x z1 _ fun G1 F1 H1 v1 g1 f1 w1 r1 => ?_
  refine h2 lk sp G1 F1 H1 σ _ d2 S2 (x.next g1 f1 w1) z2 _ fun G2 F2 H2 v2 g2 f2 w2 r2 => ?_
  refine h3 lk sp G2 F2 H2 S2 d1 d2 v1 v2 r w2 (r1.mono g2 f2) r2 z3 Q fun G3 H3 v g3 w3 r3 => ?_
  refine q G3 H3 v ((g1.trans g2).trans g3) (w3.lessF (f1.trans f2)) ?_
  unfold ResR at r3 ⊢
  by_cases o : r.own = true
  · rw [if_pos o] at r3 ⊢
    obtain ⟨p, u, a, b, c, d, e, k⟩ := r3
    exact ⟨p, u, a, b, c, d, (f1.trans f2).none e, k⟩
  · rw [if_neg o] at r3 ⊢; exact r3
theorem j_bin {op : Operator} {g : D → D → Option Rs} {pa pb : PF} (ho : JO X cm (binaryOp op) g) (ha : JP X cm a pa) (hb : JP X cm b pb) : JE X cm (.BinOp a op b pos) (fBin g pa pb) := by
  obtain ⟨r, o1, o2⟩ := ho
  obtain ⟨ta, a1, a2⟩ := ha.ex
  obtain ⟨tb, b1, b2⟩ := hb.ex
  exact .of ⟨_, pe_op o1 a1 b1, bin_ok a2 b2 o2⟩
theorem j_cmp {op : CmpOp} {g : D → D → Option Rs} {pa pb : PF} (ho : JO X cm (compareOp op) g) (ha : JP X cm a pa) (hb : JP X cm b pb) (hm : behindInMarks op b = false := by first | exact nomark _ | rfl) : JE X cm (.Compare a [op] [b] pos) (fBin g pa pb) := by
  obtain ⟨r, o1, o2⟩ := ho
  obtain ⟨ta, a1, a2⟩ := ha.ex
  obtain ⟨tb, b1, b2⟩ := hb.ex
  exact .of ⟨_, pe_cmpR o1 a1 b1 hm, bin_ok a2 b2 o2⟩
/-! tests -/
def tEb (f : FE) : TF := fun e => (f e).bind fun r => match r.1.d with
  | .bl b => some (b, r.2)
  | _ => none
theorem ResR.bl {sp : Addr} {S : Option Spr} {G F H : Hp} {v : V} {r : Rs} {x : Bool} (h : ResR cm sp S G F H v r) (e : r.d = .bl x) : v = .bl x := by
  unfold ResR at h
  by_cases o : r.own = true
  · rw [if_pos o] at h
    obtain ⟨p, u, _, _, q, _⟩ := h
    rw [e] at q; exact q.elim
  · rw [if_neg o, e] at h; exact h
theorem EOk.t {t : TE} (h : EOk cm t f) : TOk cm (tB t) (tEb f) := fun lk sp G F H σ e b S' x hf Q q => by
  unfold tEb at hf
  obtain ⟨⟨r, S1⟩, z1, hf⟩ := Option.bind_eq_some_iff.mp hf
  refine h lk sp G F H σ e r S1 x z1 _ fun G1 H1 v1 g1 w1 r1 => ?_
  cases hd : r.d with
  | bl k =>
    simp only [hd] at hf
    cases hf
    exact ⟨b, r1.bl hd, q G1 H1 g1 w1⟩
  | _ => simp only [hd] at hf; cases hf
theorem jt_cmp {op : CmpOp} {g : D → D → Option Rs} {pa pb : PF} (ho : JO X cm (compareOp op) g) (ha : JP X cm a pa) (hb : JP X cm b pb) (hm : behindInMarks op b = false := by first | exact nomark _ | rfl) : JT X cm (.Compare a [op] [b] pos) (tEb (fBin g pa pb)) := by
  obtain ⟨r, o1, o2⟩ := ho
  obtain ⟨ta, a1, a2⟩ := ha.ex
  obtain ⟨tb, b1, b2⟩ := hb.ex
  exact .of ⟨_, pt_cmpR o1 a1 b1 hm, (bin_ok a2 b2 o2).t⟩
theorem jt_val (h : JE X cm a f) (he : ∀ whole, isTrue a X.env whole = (do let v ← whole; standAt a.pos; holding [v] (truthy v)) := by intro _; rfl) : JT X cm a (tEb f) := let ⟨t, p, q⟩ := h.ex; .of ⟨_, pt_val p he, q.t⟩
def tNt (f : TF) : TF := fun e => (f e).map fun r => (!r.1, r.2)
def tAn (f g : TF) : TF := fun e => (f e).bind fun r => if r.1 = true then g (e.st r.2) else some (false, r.2)
def tOr' (f g : TF) : TF := fun e => (f e).bind fun r => if r.1 = true then some (true, r.2) else g (e.st r.2)
theorem jt_not {f : TF} (h : JT X cm a f) : JT X cm (.UnaryOp .Not a pos) (tNt f) := by
  obtain ⟨t, p, q⟩ := h.ex
  refine .of ⟨_, pt_not p, fun lk sp G F H σ e b S' x hf Q k => ?_⟩
  obtain ⟨⟨c, S1⟩, z1, hf⟩ := Option.map_eq_some_iff.mp hf
  cases hf
  exact q lk sp G F H σ e c S1 x z1 _ k
theorem tAn_ok {t u : TT} {f g : TF} (h1 : TOk cm t f) (h2 : TOk cm u g) : TOk cm (tAnd t u) (tAn f g) := fun lk sp G F H σ e b S' x hf Q k => by
  obtain ⟨⟨c, S1⟩, z1, hf⟩ := Option.bind_eq_some_iff.mp hf
  refine h1 lk sp G F H σ e c S1 x z1 _ fun G1 H1 g1 w1 => ?_
  cases c with
  | true => exact h2 lk sp G1 F H1 σ _ b S' (x.next g1 Le.rfl w1) hf Q fun G2 H2 g2 w2 => k G2 H2 (g1.trans g2) w2
  | false => cases hf; exact k G1 H1 g1 w1
theorem tOr_ok {t u : TT} {f g : TF} (h1 : TOk cm t f) (h2 : TOk cm u g) : TOk cm (tOr t u) (tOr' f g) := fun lk sp G F H σ e b S' x hf Q k => by
  obtain ⟨⟨c, S1⟩, z1, hf⟩ := Option.bind_eq_some_iff.mp hf
  refine h1 lk sp G F H σ e c S1 x z1 _ fun G1 H1 g1 w1 => ?_
  cases c with
  | false => exact h2 lk sp G1 F H1 σ _ b S' (x.next g1 Le.rfl w1) hf Q fun G2 H2 g2 w2 => k G2 H2 (g1.trans g2) w2
  | true => cases hf; exact k G1 H1 g1 w1
theorem jw_and1 {f : TF} (h : JT X cm a f) : JW X cm (.BoolOp .And [a] pos) f := let ⟨t, p, q⟩ := h.ex; .of ⟨t, pw_and1 p, q⟩
theorem jw_or1 {f : TF} (h : JT X cm a f) : JW X cm (.BoolOp .Or [a] pos) f := let ⟨t, p, q⟩ := h.ex; .of ⟨t, pw_or1 p, q⟩
theorem jw_and {f g : TF} {rest : List Expr} (h1 : JT X cm a f) (h2 : JW X cm (.BoolOp .And (b :: rest) pos) g) : JW X cm (.BoolOp .And (a :: b :: rest) pos) (tAn f g) := let ⟨t, p, q⟩ := h1.ex; let ⟨u, p', q'⟩ := h2.ex; .of ⟨_, pw_and p p', tAn_ok q q'⟩
theorem jw_or {f g : TF} {rest : List Expr} (h1 : JT X cm a f) (h2 : JW X cm (.BoolOp .Or (b :: rest) pos) g) : JW X cm (.BoolOp .Or (a :: b :: rest) pos) (tOr' f g) := let ⟨t, p, q⟩ := h1.ex; let ⟨u, p', q'⟩ := h2.ex; .of ⟨_, pw_or p p', tOr_ok q q'⟩
theorem jt_w {f : TF} (h : JW X cm a f) : JT X cm a f := let ⟨t, p, q⟩ := h.ex; .of ⟨t, p.pt, q⟩
end
end Al


set_option Elab.async false
set_option linter.all false
set_option maxRecDepth 100000
/-! Statements that compute. -/
namespace Al
open PySem PySem.Spec PyProof.Rows L2

inductive Fl where
  | nx | bk | ct | rt (r : Rs)
abbrev FS := En → Option (Fl × En)
/-- behind a statement: own objects stand apart, out of what the callers keep (F0) -/
def SR (cm : CM) (lk : Addr → Option Obj) (sp : Addr) (G F0 H : Hp) (σ : St) (e : En) : Prop :=
  ∃ F, Le F0 F ∧ ER cm lk sp G F H σ e ∧ Out F F0 σ e.cs
def Post (cm : CM) (lk : Addr → Option Obj) (sp : Addr) (G F0 : Hp) (D : Ends) : Fl → En → Prop
  | .nx, e => ∀ G' H' σ', Le G G' → SR cm lk sp G' F0 H' σ' e → D.nx σ' H'
  | .bk, e => ∀ G' H' σ', Le G G' → SR cm lk sp G' F0 H' σ' e → D.bk σ' H'
  | .ct, e => ∀ G' H' σ', Le G G' → SR cm lk sp G' F0 H' σ' e → D.ct σ' H'
  | .rt r, e => ∀ G' H' v, Le G G' → WR lk sp G' F0 H' e.S → ResR cm sp e.S G' F0 H' v r → D.rt v H'
theorem Post.mono {cm : CM} {lk : Addr → Option Obj} {sp : Addr} {G G1 F0 : Hp} {D : Ends} (g : Le G G1) : ∀ {fl : Fl} {e : En}, Post cm lk sp G F0 D fl e → Post cm lk sp G1 F0 D fl e
  | .nx, _, h => fun G' H' σ' g' => h G' H' σ' (g.trans g')
  | .bk, _, h => fun G' H' σ' g' => h G' H' σ' (g.trans g')
  | .ct, _, h => fun G' H' σ' g' => h G' H' σ' (g.trans g')
  | .rt _, _, h => fun G' H' v g' => h G' H' v (g.trans g')
def SOk (cm : CM) (t : TS) (f : FS) : Prop := ∀ lk sp G F0 H σ e fl e', SR cm lk sp G F0 H σ e → f e = some (fl, e') → ∀ D : Ends, Post cm lk sp G F0 D fl e' → t D σ H
def tS (cm : CM) (f : FS) : TS := fun D σ H => ∃ lk sp G F0 e fl e', SR cm lk sp G F0 H σ e ∧ f e = some (fl, e') ∧ Post cm lk sp G F0 D fl e'
def JS (X : Cx) (cm : CM) (a : Stmt) (f : FS) : Prop := PS X a (tS cm f)
def JB (X : Cx) (cm : CM) (a : List Stmt) (f : FS) : Prop := PSs X a (tS cm f)
section
variable {X : Cx} {cm : CM} {a : Stmt} {as : List Stmt} {f g : FS} {pos : Pos}
theorem JS.of : (∃ t, PS X a t ∧ SOk cm t f) → JS X cm a f := fun ⟨t, p, q⟩ => ⟨fun pins s σ H D I ⟨lk, sp, G, F0, e, fl, e', x, hf, k⟩ => p.run pins s σ H D I (q lk sp G F0 H σ e fl e' x hf D k)⟩
theorem JB.of : (∃ t, PSs X as t ∧ SOk cm t f) → JB X cm as f := fun ⟨t, p, q⟩ => ⟨fun pins s σ H D I ⟨lk, sp, G, F0, e, fl, e', x, hf, k⟩ => p.run pins s σ H D I (q lk sp G F0 H σ e fl e' x hf D k)⟩
theorem JS.ex (h : JS X cm a f) : ∃ t, PS X a t ∧ SOk cm t f := ⟨_, h, fun lk sp G F0 H σ e fl e' x hf D k => ⟨lk, sp, G, F0, e, fl, e', x, hf, k⟩⟩
theorem JB.ex (h : JB X cm as f) : ∃ t, PSs X as t ∧ SOk cm t f := ⟨_, h, fun lk sp G F0 H σ e fl e' x hf D k => ⟨lk, sp, G, F0, e, fl, e', x, hf, k⟩⟩

/-! blocks -/
def sNx : FS := fun e => some (.nx, e)
def sSeq (f g : FS) : FS := fun e => (f e).bind fun r => match r.1 with
  | .nx => g r.2
  | .bk => some r
  | .ct => some r
  | .rt _ => some r
theorem jb_nil : JB X cm [] sNx := .of ⟨_, pss_nil, fun lk sp G F0 H σ e fl e' x hf D k => by cases hf; exact k G H σ Le.rfl x⟩
theorem jb_cons (h1 : JS X cm a f) (h2 : JB X cm as g) : JB X cm (a :: as) (sSeq f g) := by
  obtain ⟨t, p, q⟩ := h1.ex
  obtain ⟨u, p', q'⟩ := h2.ex
  refine .of ⟨_, pss_cons p p', fun lk sp G F0 H σ e fl e' x hf D k => ?_⟩
  unfold sSeq at hf
  obtain ⟨⟨fl1, e1⟩, z1, hf⟩ := Option.bind_eq_some_iff.mp hf
  refine q lk sp G F0 H σ e fl1 e1 x z1 _ ?_
  cases fl1 with
  | nx => exact fun G' H' σ' g' x' => q' lk sp G' F0 H' σ' e1 fl e' x' hf D (k.mono g')
  | bk => cases hf; exact k
  | ct => cases hf; exact k
  | rt r => cases hf; exact k
theorem jb_one (h : JS X cm a f) : JB X cm [a] f := let ⟨t, p, q⟩ := h.ex; .of ⟨t, pss_one p, q⟩
theorem js_pass : JS X cm (.Pass pos) sNx := .of ⟨_, ps_pass, fun lk sp G F0 H σ e fl e' x hf D k => by cases hf; exact k G H σ Le.rfl x⟩
theorem js_doc {x j pos'} : JS X cm (.Expr (.Constant (.str x) j pos) pos') sNx := .of ⟨_, ps_doc, fun lk sp G F0 H σ e fl e' x hf D k => by cases hf; exact k G H σ Le.rfl x⟩
def sBk : FS := fun e => some (.bk, e)
def sCt : FS := fun e => some (.ct, e)
theorem js_break : JS X cm (.Break pos) sBk := .of ⟨_, ps_break, fun lk sp G F0 H σ e fl e' x hf D k => by cases hf; exact k G H σ Le.rfl x⟩
theorem js_continue : JS X cm (.Continue pos) sCt := .of ⟨_, ps_continue, fun lk sp G F0 H σ e fl e' x hf D k => by cases hf; exact k G H σ Le.rfl x⟩
/-- never come to -/
def sNo : FS := fun _ => none
theorem js_no : JS X cm a sNo := .of ⟨_, ps_never, fun lk sp G F0 H σ e fl e' x hf D k => by cases hf⟩
theorem jb_no : JB X cm as sNo := .of ⟨_, pss_never, fun lk sp G F0 H σ e fl e' x hf D k => by cases hf⟩

/-! the world behind an expression -/
variable {lk : Addr → Option Obj} {sp : Addr} {G G' F0 F H H' : Hp} {σ : St} {e : En} {S' : Option Spr} {ex : Expr} {fe : FE} {ft : TF} {pf : PF} {v : V} {r : Rs}
theorem SR.next (l : Le F0 F) (x : ER cm lk sp G F H σ e) (y : Out F F0 σ e.cs) (g : Le G G') (w : WR lk sp G' F H' S') : SR cm lk sp G' F0 H' σ (e.st S') := ⟨F, l, x.next g Le.rfl w, y⟩

/-! return, expression, if -/
def sRet (f : FE) : FS := fun e => (f e).map fun r => (.rt r.1, e.st r.2)
theorem js_ret (h : JE X cm ex fe) : JS X cm (.Return (some ex) pos) (sRet fe) := by
  obtain ⟨t, p, q⟩ := h.ex
  refine .of ⟨_, ps_ret p, fun lk sp G F0 H σ e fl e' x hf D k => ?_⟩
  obtain ⟨⟨r, S1⟩, z1, hf⟩ := Option.map_eq_some_iff.mp hf
  cases hf
  obtain ⟨F, l, x, y⟩ := x
  refine q lk sp G F H σ e r S1 x z1 _ fun G' H' v g' w' r' => k G' H' v g' (w'.lessF l) ?_
  unfold ResR at r' ⊢
  by_cases o : r.own = true
  · rw [if_pos o] at r' ⊢
    obtain ⟨p, u, a, b, c, d, e, k⟩ := r'
    exact ⟨p, u, a, b, c, d, l.none e, k⟩
  · rw [if_neg o] at r' ⊢; exact r'
def sRetN : FS := fun e => some (.rt (fz .non), e)
theorem js_retN : JS X cm (.Return none pos) sRetN := .of ⟨_, ps_retN, fun lk sp G F0 H σ e fl e' x hf D k => by
  cases hf
  obtain ⟨F, l, x, y⟩ := x
  exact k G H .non Le.rfl (x.w.lessF l) (ResR.fz rfl)⟩
/-- return a name, its own object with it -/
def sRetV (i : Nat) : FS := fun e => match e.cs[i]? with
  | some (.own d) => some (.rt (nw d), e)
  | some (.frz d) => some (.rt (fz d), e)
  | _ => none
theorem js_retV (i : Nat) {x : Str} {p1 : Pos} (hN : X.N[i]? = some x := by rfl) (hv : Vis X.env.scope x := by first | exact Or.inl rfl | exact Or.inr (Or.inl rfl) | exact Or.inr (Or.inr rfl)) (hd : (x == ("__debug__" : Str)) = false := by decide)
    (hcd : (x == ("__classdict__" : Str)) = false := by decide) : JS X cm (.Return (some (.Name x p1)) pos) (sRetV i) := by
  refine .of ⟨_, ps_ret (pe_var hN hv hd hcd), fun lk sp G F0 H σ e fl e' x hf D k => ?_⟩
  obtain ⟨F, l, x, y⟩ := x
  unfold sRetV at hf
  split at hf
  · rename_i d hd
    cases hf
    obtain ⟨o, h1, p, u, h2, h3, h4⟩ := x.c i _ hd
    subst h2
    refine ⟨.ref p, h1, k G H _ Le.rfl (x.w.lessF l) (ResR.nw (x.w.fh p u h3) h4 (x.w.fg p u h3) (y i _ _ p hd h1 rfl) (fun s e q => by
      have := (x.w.sp s e).2.2
      rw [← q, h3] at this; cases this) fun xs z => x.w.ft p xs (by rw [← z]; exact h3))⟩
  · rename_i d hd
    cases hf
    obtain ⟨o, h1, v, h2, h3⟩ := x.c i _ hd
    subst h2
    exact ⟨v, h1, k G H v Le.rfl (x.w.lessF l) (ResR.fz h3)⟩
  · cases hf
def sExp (f : FE) : FS := fun e => (f e).map fun r => (.nx, e.st r.2)
theorem js_expr (h : JE X cm ex fe) (hs : swapsWith ex none pos.line X.env = pure false := by rfl) : JS X cm (.Expr ex pos) (sExp fe) := by
  obtain ⟨t, p, q⟩ := h.ex
  refine .of ⟨_, ps_expr p hs, fun lk sp G F0 H σ e fl e' x hf D k => ?_⟩
  obtain ⟨⟨r, S1⟩, z1, hf⟩ := Option.map_eq_some_iff.mp hf
  cases hf
  obtain ⟨F, l, x, y⟩ := x
  exact q lk sp G F H σ e r S1 x z1 _ fun G' H' v g' w' r' => k G' H' σ g' (SR.next l x y g' w')
def sIf (c : TF) (f g : FS) : FS := fun e => (c e).bind fun r => if r.1 = true then f (e.st r.2) else g (e.st r.2)
theorem js_if {bs : List Stmt} (hc : JT X cm ex ft) (h1 : JB X cm as f) (h2 : JB X cm bs g) : JS X cm (.If ex as bs pos) (sIf ft f g) := by
  obtain ⟨t, p, q⟩ := hc.ex
  obtain ⟨t1, p1, q1⟩ := h1.ex
  obtain ⟨t2, p2, q2⟩ := h2.ex
  refine .of ⟨_, ps_if p p1 p2, fun lk sp G F0 H σ e fl e' x hf D k => ?_⟩
  obtain ⟨⟨b, S1⟩, z1, hf⟩ := Option.bind_eq_some_iff.mp hf
  obtain ⟨F, l, x, y⟩ := x
  refine q lk sp G F H σ e b S1 x z1 _ fun G' H' g' w' => ?_
  have n := SR.next l x y g' w'
  cases b with
  | true => exact q1 lk sp G' F0 H' σ _ fl e' n hf D (k.mono g')
  | false => exact q2 lk sp G' F0 H' σ _ fl e' n hf D (k.mono g')

/-! a name's store -/
def Rs.cell (r : Rs) : Cell := if r.own = true then .own r.d else .frz r.d
def En.put (e : En) (i : Nat) (c : Cell) : En := { e with cs := e.cs.set i c }
theorem putc {cs : List Cell} {i j : Nat} {c c' : Cell} (hj : j ≠ i) (q : (cs.set i c')[j]? = some c) : cs[j]? = some c := by rwa [List.getElem?_set_ne (Ne.symm hj)] at q
theorem putn {cs : List Cell} {i : Nat} {c c' : Cell} (q : (cs.set i c')[i]? = some c) : c = c' ∧ i < cs.length := by
  have hi : i < cs.length := by
    obtain ⟨q1, _⟩ := List.getElem?_eq_some_iff.mp q
    rwa [List.length_set] at q1
  rw [List.getElem?_set_self hi] at q
  exact ⟨(Option.some.inj q).symm, hi⟩
theorem puts {i j : Nat} {o : Option V} {v : Option V} (hj : j ≠ i) (q : (σ.set i v)[j]? = some o) : σ[j]? = some o := by rwa [List.getElem?_set_ne (Ne.symm hj)] at q
theorem puth {i : Nat} {o v : Option V} (q : (σ.set i v)[i]? = some o) : o = v := by
  have hi : i < σ.length := by
    obtain ⟨q1, _⟩ := List.getElem?_eq_some_iff.mp q
    rwa [List.length_set] at q1
  rw [List.getElem?_set_self hi] at q
  exact (Option.some.inj q).symm
/-- a slot gets another value, another cell: what it owns was nobody's -/
theorem ER.put {i : Nat} {v : V} {c : Cell} (x : ER cm lk sp G F H σ e) (k : CellR cm sp G F (some v) c)
    (n : ∀ (j : Nat) c' o p, j ≠ i → e.cs[j]? = some c' → σ[j]? = some o → Ft F o c' p → Ft F (some v) c p → False) : ER cm lk sp G F H (σ.set i (some v)) (e.put i c) := by
  refine ⟨x.w, fun j c1 q => ?_, fun a b c1 c2 o1 o2 p hab a1 a2 b1 b2 f1 f2 => ?_, x.b⟩
  · by_cases hj : j = i
    · subst hj
      obtain ⟨rfl, hi⟩ := putn q
      obtain ⟨o, h1, _⟩ := x.c j e.cs[j] (List.getElem?_eq_getElem hi)
      exact ⟨_, List.getElem?_set_self (List.getElem?_eq_some_iff.mp h1).1, k⟩
    · obtain ⟨o, h1, h2⟩ := x.c j c1 (putc hj q)
      exact ⟨o, by rw [List.getElem?_set_ne (Ne.symm hj)]; exact h1, h2⟩
  · by_cases ha : a = i
    · subst ha
      obtain ⟨rfl, _⟩ := putn a1
      cases puth b1
      exact n b c2 o2 p (Ne.symm hab) (putc (Ne.symm hab) a2) (puts (Ne.symm hab) b2) f2 f1
    · by_cases hb : b = i
      · subst hb
        obtain ⟨rfl, _⟩ := putn a2
        cases puth b2
        exact n a c1 o1 p ha (putc ha a1) (puts ha b1) f1 f2
      · exact x.s a b c1 c2 o1 o2 p hab (putc ha a1) (putc hb a2) (puts ha b1) (puts hb b2) f1 f2
theorem Out.put {i : Nat} {v : V} {c : Cell} {cs : List Cell} (y : Out F F0 σ cs) (k : ∀ p, Ft F (some v) c p → F0 p = none) : Out F F0 (σ.set i (some v)) (cs.set i c) := fun j c1 o p a b f => by
  by_cases hj : j = i
  · subst hj
    obtain ⟨rfl, _⟩ := putn a
    cases puth b
    exact k p f
  · exact y j c1 o p (putc hj a) (puts hj b) f
theorem SR.set {i : Nat} (l : Le F0 F) (x : ER cm lk sp G F H σ e) (y : Out F F0 σ e.cs)
    (h : ResR cm sp e.S G F H v r) : SR cm lk sp G F0 H (σ.set i (some v)) (e.put i r.cell) := by
  unfold ResR at h
  by_cases o : r.own = true
  · rw [if_pos o] at h
    obtain ⟨p, u, rfl, hp, ho, hg, hf, hs, nt⟩ := h
    have rc : r.cell = .own r.d := by unfold Rs.cell; rw [if_pos o]
    rw [rc]
    have x1 : ER cm lk sp G (upd F p u) H σ (e.st e.S) := x.next Le.rfl (Le.upd hf) (x.w.keep hp hg hs nt)
    refine ⟨upd F p u, l.trans (Le.upd hf), ER.put x1 ⟨p, u, rfl, upd_same, ho⟩ fun j c' o' q hj e1 e2 f1 f2 => ?_, Out.put (y.up (Le.upd hf) x.c) fun q f => ?_⟩
    · cases f2
      obtain ⟨o2, h1, h2⟩ := x.c j c' e1
      rw [e2] at h1; cases h1
      obtain ⟨u', h3⟩ := Ft.some h2 (Ft.back (Le.upd hf) h2 f1)
      rw [hf] at h3; cases h3
    · cases f
      exact l.none hf
  · rw [if_neg o] at h
    have rc : r.cell = .frz r.d := by unfold Rs.cell; rw [if_neg o]
    rw [rc]
    exact ⟨F, l, ER.put x ⟨v, rfl, h⟩ fun j c' o' q hj e1 e2 f1 f2 => f2.elim, Out.put y fun q f => f.elim⟩
def sSet (i : Nat) (f : FE) : FS := fun e => (f e).map fun r => (.nx, (e.st r.2).put i r.1.cell)
/-- the store at a name, of any expression's term -/
theorem ok_set {t : TE} {i : Nat} (q : EOk cm t fe) : SOk cm (tAsg t (gName i)) (sSet i fe) := fun lk sp G F0 H σ e fl e' x hf D k => by
  obtain ⟨⟨r, S1⟩, z1, hf⟩ := Option.map_eq_some_iff.mp hf
  cases hf
  obtain ⟨F, l, x, y⟩ := x
  exact q lk sp G F H σ e r S1 x z1 _ fun G' H' v g' w' r' => k G' H' _ g' (SR.set l (x.next g' Le.rfl w') y r')
theorem js_set {i : Nat} {x : Str} {pos' : Pos} (hN : X.N.Nodup) (h : JE X cm ex fe) (hi : X.N[i]? = some x := by rfl) (hx : Loc X.env.scope x := by first | exact Or.inl rfl | exact Or.inr rfl) (hs : swapsWith ex (some (.Name x pos')) pos.line X.env = pure false := by rfl)
    (hf : X.fn x = true ∨ X.env.scope.names.lookup x = some .local := by first | exact .inl rfl | exact .inr rfl) : JS X cm (.Assign [.Name x pos'] ex pos) (sSet i fe) := by
  obtain ⟨t, p, q⟩ := h.ex
  exact .of ⟨_, ps_set hN hi hx p hs hf, ok_set q⟩
/-- own things come to stand still -/
def En.still (e : En) (i : Nat) : En := match e.cs[i]? with
  | some (.own d) => e.put i (.frz d)
  | some (.own2 ds) => e.put i (.frz (.dk ds))
  | _ => e
section
open Classical
noncomputable def mvG (A : Addr → Prop) (G F : Hp) : Hp := fun q => if A q then F q else G q
noncomputable def mvF (A : Addr → Prop) (F : Hp) : Hp := fun q => if A q then none else F q
variable {A : Addr → Prop}
theorem mvF_le : Le (mvF A F) F := fun q u e => by
  unfold mvF at e
  split at e
  · cases e
  · exact e
theorem mvG_in {q : Addr} (h : A q) : mvG A G F q = F q := by unfold mvG; rw [if_pos h]
theorem mvG_out {q : Addr} (h : ¬ A q) : mvG A G F q = G q := by unfold mvG; rw [if_neg h]
theorem mvF_out {q : Addr} (h : ¬ A q) : mvF A F q = F q := by unfold mvF; rw [if_neg h]
theorem mvF_in {q : Addr} (h : A q) : mvF A F q = none := by unfold mvF; rw [if_pos h]
theorem mvG_le {S : Option Spr} (w : WR lk sp G F H S) (ha : ∀ q, A q → ∃ u, F q = some u) : Le G (mvG A G F) := fun q u e => by
  by_cases z : A q
  · obtain ⟨u', h⟩ := ha q z
    rw [w.fg q u' h] at e; cases e
  · rw [mvG_out z]; exact e
theorem WR.mv {S : Option Spr} (w : WR lk sp G F H S) (ha : ∀ q, A q → ∃ u, F q = some u) : WR lk sp (mvG A G F) (mvF A F) H S :=
  ⟨fun q u e => by
    by_cases z : A q
    · rw [mvG_in z] at e
      unfold lkd
      rw [w.nl (w.fg q u e)]
      exact w.fh q u e
    · rw [mvG_out z] at e; exact w.gh q u e,
   fun q u e => w.fh q u (mvF_le q u e),
   fun q u e => by
    have z : ¬ A q := fun z => by rw [mvF_in z] at e; cases e
    rw [mvF_out z] at e
    rw [mvG_out z]
    exact w.fg q u e,
   fun q o e => by
    obtain ⟨u, h, l⟩ := w.lg q o e
    exact ⟨u, mvG_le w ha q u h, l⟩,
   fun s e => by
    obtain ⟨a, b, c⟩ := w.sp s e
    have z : ¬ A sp := fun z => by
      obtain ⟨u, h⟩ := ha sp z
      rw [c] at h; cases h
    exact ⟨a, by rw [mvG_out z]; exact b, by rw [mvF_out z]; exact c⟩,
   fun q xs e => w.ft q xs (mvF_le q _ e)⟩
theorem Rep2.mv {ds : List (Key × D)} : ∀ {vs : List (Key × V)}, Rep2 cm G F ds vs → (hl : Le G (mvG A G F)) → (∀ k q, (k, V.ref q) ∈ vs → A q) → RepK cm (mvG A G F) ds vs := by
  induction ds with
  | nil => exact fun r _ _ => r
  | cons kd ds ih =>
    obtain ⟨k, d⟩ := kd
    rintro vs ⟨q, u, t, rfl, h, o, n, b⟩ hl ha
    exact ⟨.ref q, t, rfl, ObjR.rep (by rw [mvG_in (ha k q List.mem_cons_self)]; exact h) (o.mono hl), ih b hl fun k' q' m => ha k' q' (List.mem_cons_of_mem _ m)⟩
theorem Rep2.out {F' : Hp} {ds : List (Key × D)} : ∀ {vs : List (Key × V)}, Rep2 cm G F ds vs → (hl : Le G G') → (∀ k q, (k, V.ref q) ∈ vs → F' q = F q) → Rep2 cm G' F' ds vs := by
  induction ds with
  | nil => exact fun r _ _ => r
  | cons kd ds ih =>
    obtain ⟨k, d⟩ := kd
    rintro vs ⟨q, u, t, rfl, h, o, n, b⟩ hl ha
    exact ⟨q, u, t, rfl, by rw [ha k q List.mem_cons_self]; exact h, o.mono hl, n, ih b hl fun k' q' m => ha k' q' (List.mem_cons_of_mem _ m)⟩
/-- the cell i is moved to what stands still -/
theorem ER.mv {i : Nat} {c : Cell} {o : Option V} {d : D} (x : ER cm lk sp G F H σ e) (hc : e.cs[i]? = some c) (hs : σ[i]? = some o) (hd : (c = .own d) ∨ ∃ ds, c = .own2 ds ∧ d = .dk ds) :
    Le G (mvG (Ft F o c) G F) ∧ ER cm lk sp (mvG (Ft F o c) G F) (mvF (Ft F o c) F) H σ (e.put i (.frz d)) := by
  obtain ⟨o', h1, h2⟩ := x.c i c hc
  rw [hs] at h1; cases h1
  have ha : ∀ q, Ft F o c q → ∃ u, F q = some u := fun q f => Ft.some h2 f
  have hl := mvG_le x.w ha
  have sepF : ∀ {j : Nat} {c' : Cell} {o' : Option V}, j ≠ i → e.cs[j]? = some c' → σ[j]? = some o' → CellR cm sp G F o' c' → CellR cm sp (mvG (Ft F o c) G F) (mvF (Ft F o c) F) o' c' := fun {j c' o'} hj e1 e2 k => by
    have nt : ∀ q, Ft F o' c' q → ¬ Ft F o c q := fun q f f' => x.s j i c' c o' o q hj e1 hc e2 hs f f'
    cases c' with
    | no => trivial
    | frz d' => exact CellR.mono (c := .frz d') (F := F) (F' := F) hl Le.rfl k
    | own d' =>
      obtain ⟨p, u, a, b, r⟩ := k
      exact ⟨p, u, a, by rw [mvF_out (nt p a)]; exact b, r.mono hl⟩
    | own2 ds =>
      obtain ⟨p, vs, a, b, n, r⟩ := k
      exact ⟨p, vs, a, by rw [mvF_out (nt p (.inl a))]; exact b, n, r.out hl fun k q m => mvF_out (nt q (.inr ⟨p, vs, k, a, b, m⟩))⟩
    | spr => exact k
    | raw v => exact k
  have rep : ∃ v, o = some v ∧ Rep cm (mvG (Ft F o c) G F) d v := by
    rcases hd with rfl | ⟨ds, rfl, rfl⟩
    · obtain ⟨p, u, a, b, r⟩ := h2
      exact ⟨_, a, ObjR.rep (by rw [mvG_in a]; exact b) (r.mono hl)⟩
    · obtain ⟨p, vs, a, b, n, r⟩ := h2
      refine ⟨_, a, p, _, rfl, by rw [mvG_in (.inl a)]; exact b, vs, rfl, r.mv hl fun k q m => .inr ⟨p, vs, k, a, b, m⟩⟩
  have fb : ∀ {c' : Cell} {o' : Option V} {q : Addr}, Ft (mvF (Ft F o c) F) o' c' q → Ft F o' c' q := fun {c' o' q} f => by
    cases c' with
    | own2 ds =>
      rcases f with f | ⟨p, vs, k, a, b, m⟩
      · exact .inl f
      · exact .inr ⟨p, vs, k, a, mvF_le _ _ b, m⟩
    | _ => exact f
  refine ⟨hl, x.w.mv ha, fun j c1 q => ?_, fun a b c1 c2 o1 o2 p hab a1 a2 b1 b2 f1 f2 => ?_, x.b.trans hl⟩
  · by_cases hj : j = i
    · subst hj
      obtain ⟨rfl, _⟩ := putn q
      exact ⟨o, hs, rep⟩
    · obtain ⟨o', k1, k2⟩ := x.c j c1 (putc hj q)
      exact ⟨o', k1, sepF hj (putc hj q) k1 k2⟩
  · by_cases ha : a = i
    · subst ha
      obtain ⟨rfl, _⟩ := putn a1
      exact f1
    · by_cases hb : b = i
      · subst hb
        obtain ⟨rfl, _⟩ := putn a2
        exact f2
      · exact x.s a b c1 c2 o1 o2 p hab (putc ha a1) (putc hb a2) b1 b2 (fb f1) (fb f2)
theorem SR.still (i : Nat) (x : SR cm lk sp G F0 H σ e) : ∃ G', Le G G' ∧ SR cm lk sp G' F0 H σ (e.still i) := by
  obtain ⟨F, l, x, y⟩ := x
  have main : ∀ {c : Cell} {d : D}, e.cs[i]? = some c → ((c = .own d) ∨ ∃ ds, c = .own2 ds ∧ d = .dk ds) → ∃ G', Le G G' ∧ SR cm lk sp G' F0 H σ (e.put i (.frz d)) := fun {c d} hc hd => by
    obtain ⟨o, h1, h2⟩ := x.c i c hc
    obtain ⟨hl, x'⟩ := x.mv hc h1 hd
    refine ⟨_, hl, _, fun q u h => ?_, x', fun j c1 o1 p a b f => ?_⟩
    · have z : ¬ Ft F o c q := fun z => by rw [y i c o q hc h1 z] at h; cases h
      rw [mvF_out z]; exact l q u h
    · by_cases hj : j = i
      · subst hj
        obtain ⟨rfl, _⟩ := putn a
        exact f.elim
      · refine y j c1 o1 p (putc hj a) b ?_
        cases c1 with
        | own2 ds =>
          rcases f with f | ⟨p, vs, k, a, b, m⟩
          · exact .inl f
          · exact .inr ⟨p, vs, k, a, mvF_le _ _ b, m⟩
        | _ => exact f
  unfold En.still
  split
  · rename_i d hd; exact main hd (.inl rfl)
  · rename_i ds hd; exact main hd (.inr ⟨ds, rfl, rfl⟩)
  · exact ⟨G, Le.rfl, F, l, x, y⟩
end
def sFz (i : Nat) (f : FS) : FS := fun e => f (e.still i)
theorem js_fz (i : Nat) (h : JS X cm a f) : JS X cm a (sFz i f) := by
  obtain ⟨t, p, q⟩ := h.ex
  refine .of ⟨t, p, fun lk sp G F0 H σ e fl e' x hf D k => ?_⟩
  obtain ⟨G', g', x'⟩ := x.still i
  exact q lk sp G' F0 H σ _ fl e' x' hf D (k.mono g')
theorem jb_fz (i : Nat) (h : JB X cm as f) : JB X cm as (sFz i f) := by
  obtain ⟨t, p, q⟩ := h.ex
  refine .of ⟨t, p, fun lk sp G F0 H σ e fl e' x hf D k => ?_⟩
  obtain ⟨G', g', x'⟩ := x.still i
  exact q lk sp G' F0 H σ _ fl e' x' hf D (k.mono g')
/-- slots that are of no use any more -/
def En.drop (e : En) (i : Nat) : En := e.put i .no
theorem Sep.no {cs : List Cell} {i : Nat} (s : Sep F σ cs) : Sep F σ (cs.set i .no) := fun a b c1 c2 o1 o2 p hab a1 a2 b1 b2 f1 f2 => by
  by_cases ha : a = i
  · subst ha
    obtain ⟨rfl, _⟩ := putn a1
    exact f1
  · by_cases hb : b = i
    · subst hb
      obtain ⟨rfl, _⟩ := putn a2
      exact f2
    · exact s a b c1 c2 o1 o2 p hab (putc ha a1) (putc hb a2) b1 b2 f1 f2
theorem Out.no {cs : List Cell} {i : Nat} (s : Out F F0 σ cs) : Out F F0 σ (cs.set i .no) := fun j c o p a b f => by
  by_cases hj : j = i
  · subst hj
    obtain ⟨rfl, _⟩ := putn a
    exact f.elim
  · exact s j c o p (putc hj a) b f
theorem CellsR.no {cs : List Cell} {i : Nat} (s : CellsR cm sp G F σ cs) : CellsR cm sp G F σ (cs.set i .no) := fun j c a => by
  by_cases hj : j = i
  · subst hj
    obtain ⟨rfl, hi⟩ := putn a
    obtain ⟨o, h1, _⟩ := s j cs[j] (List.getElem?_eq_getElem hi)
    exact ⟨o, h1, trivial⟩
  · exact s j c (putc hj a)
theorem SR.drop (i : Nat) (x : SR cm lk sp G F0 H σ e) : SR cm lk sp G F0 H σ (e.drop i) := by
  obtain ⟨F, l, x, y⟩ := x
  exact ⟨F, l, ⟨x.w, x.c.no, x.s.no, x.b⟩, y.no⟩
end
end Al


set_option Elab.async false
set_option linter.all false
set_option maxRecDepth 100000
/-! Targets, loops, comprehensions, calls. -/
namespace Al
open PySem PySem.Spec PyProof.Rows L2
theorem or_lo {α : Type} {x : Option α} {P : Prop} (h : x = none ∨ P) (n : x ≠ none) : P := h.resolve_left n

/-! ### targets -/
inductive Tg where
  | nm (i : Nat) | tp (is : List Nat)
def setAll : St → List Nat → List V → St
  | σ, i :: is, x :: xs => setAll (σ.set i (some x)) is xs
  | σ, _, _ => σ
def putAll : En → List Nat → List D → En
  | e, i :: is, d :: ds => putAll (e.put i (.frz d)) is ds
  | e, _, _ => e
def gAll (is : List Nat) : TGs := fun vs σ H Q => vs.length = is.length ∧ Q (setAll σ is vs) H
def tgT (K : PySem.W.Frag) : Tg → TG
  | .nm i => gName i
  | .tp is => fun v σ H Q => ∃ a xs, v = .ref a ∧ (SqT K H a xs ∨ SqL K H a xs) ∧ xs.length = is.length ∧ Q (setAll σ is xs) H
def tgD : Tg → D → En → Option En
  | .nm i, d, e => some (e.put i (.frz d))
  | .tp is, .tup ds, e => if ds.length = is.length then some (putAll e is ds) else none
  | .tp is, .lst ds, e => if ds.length = is.length then some (putAll e is ds) else none
  | .tp _, _, _ => none
def Tg.slots : Tg → List Nat
  | .nm i => [i]
  | .tp is => is
def JG (X : Cx) (a : Expr) (T : Tg) : Prop := PG X a (tgT X.K T)
section
variable {X : Cx} {pos : Pos}
theorem jg_name (i : Nat) {x : Str} (hN : X.N.Nodup) (hi : X.N[i]? = some x := by rfl) (hx : Loc X.env.scope x := by first | exact Or.inl rfl | exact Or.inr rfl) (hf : X.fn x = true ∨ X.env.scope.names.lookup x = some .local := by first | exact .inl rfl | exact .inr rfl) : JG X (.Name x pos) (.nm i) := pg_name hN hi hx hf
theorem jgs_nil : PGs X [] (gAll []) := ⟨fun pins s σ H vs us Q I r h => by
  obtain ⟨e, h⟩ := h
  cases r with
  | nil => exact assignInOrder_nil ⟨σ, H, I, h⟩
  | cons a b => simp at e⟩
theorem jgs_cons {e : Expr} {es : List Expr} {i : Nat} {is : List Nat} (h1 : JG X e (.nm i)) (h2 : PGs X es (gAll is))
    (hs : (assignEach (e :: es) X.env).map (·.2) = assign e X.env :: (assignEach es X.env).map (·.2) := by rfl) : PGs X (e :: es) (gAll (i :: is)) := by
  refine ⟨fun pins s σ H vs us Q I r h => ?_⟩
  obtain ⟨e1, h⟩ := h
  cases r with
  | nil => simp at e1
  | cons r rr =>
    rw [hs]
    refine assignInOrder_cons (thn (h1.run pins s σ H _ _ (fun σ' H' => σ' = σ.set i (some _) ∧ H' = H) I r ⟨rfl, rfl⟩) fun _ s1 ⟨σ1, H1, I1, q1, q2⟩ => ?_)
    subst q1
    subst q2
    exact h2.run pins s1 _ _ _ _ Q I1 rr ⟨by simpa using e1, h⟩
theorem jg_tup {es : List Expr} {k : Nat} {is : List Nat} (hc : X.calm = true) (h : PGs X es (gAll is)) (hn : (assignEach es X.env).length = is.length := by rfl) (hst : (assignEach es X.env).findIdx? (·.1) = none := by rfl) : JG X (.Tuple es k pos) (.tp is) := by
  refine ⟨fun pins s σ H v u Q I r hw => ?_⟩
  obtain ⟨a, xs, e1, hq, hl, hw⟩ := hw
  rcases hq with hq | hq
  · exact (pg_tup (k := k) (pos := pos) (n := is.length) hc h hn hst).run pins s σ H v u Q I r ⟨a, xs, e1, hq, hl, hl, hw⟩
  · exact (pg_unl (k := k) (pos := pos) (n := is.length) hc h hn hst).run pins s σ H v u Q I r ⟨a, xs, e1, hq, hl, hl, hw⟩
end
section
variable {cm : CM} {lk : Addr → Option Obj} {sp : Addr} {G G' F0 F H H' : Hp} {σ : St} {e : En} {S' : Option Spr} {K : PySem.W.Frag}
theorem put_st (e : En) (S : Option Spr) (i : Nat) (c : Cell) : (e.put i c).st S = (e.st S).put i c := rfl
theorem SR.setF {i : Nat} {d : D} {v : V} (x : SR cm lk sp G F0 H σ e) (h : Rep cm G d v) : SR cm lk sp G F0 H (σ.set i (some v)) (e.put i (.frz d)) := by
  obtain ⟨F, l, x, y⟩ := x
  exact SR.set (r := fz d) l x y (ResR.fz h)
theorem ER.setF {i : Nat} {d : D} {v : V} (x : ER cm lk sp G F H σ e) (h : Rep cm G d v) : ER cm lk sp G F H (σ.set i (some v)) (e.put i (.frz d)) := ER.put x ⟨v, rfl, h⟩ fun _ _ _ _ _ _ _ _ f => f.elim
theorem SR.setAll : ∀ {is : List Nat} {ds : List D} {vs : List V} {σ : St} {e : En}, SR cm lk sp G F0 H σ e → Reps cm G ds vs → SR cm lk sp G F0 H (setAll σ is vs) (putAll e is ds)
  | [], ds, vs, σ, e, x, _ => by
    cases ds <;> cases vs <;> exact x
  | i :: is, [], vs, σ, e, x, r => by obtain rfl : vs = [] := r; exact x
  | i :: is, d :: ds, _, σ, e, x, ⟨v, t, q, a, b⟩ => by subst q; exact SR.setAll (is := is) (ds := ds) (vs := t) (σ := σ.set i (some v)) (e := e.put i (.frz d)) (x.setF a) b
theorem ER.setAll : ∀ {is : List Nat} {ds : List D} {vs : List V} {σ : St} {e : En}, ER cm lk sp G F H σ e → Reps cm G ds vs → ER cm lk sp G F H (setAll σ is vs) (putAll e is ds)
  | [], ds, vs, σ, e, x, _ => by
    cases ds <;> cases vs <;> exact x
  | i :: is, [], vs, σ, e, x, r => by obtain rfl : vs = [] := r; exact x
  | i :: is, d :: ds, _, σ, e, x, ⟨v, t, q, a, b⟩ => by subst q; exact ER.setAll (is := is) (ds := ds) (vs := t) (σ := σ.set i (some v)) (e := e.put i (.frz d)) (x.setF a) b
theorem setAll_ext : ∀ {is : List Nat} {vs : List V} {σ : St}, (setAll σ is vs).length = σ.length ∧ ∀ k, k ∉ is → (setAll σ is vs)[k]? = σ[k]?
  | [], vs, σ => by cases vs <;> exact ⟨rfl, fun _ _ => rfl⟩
  | i :: is, [], σ => ⟨rfl, fun _ _ => rfl⟩
  | i :: is, v :: vs, σ => by
    obtain ⟨a, b⟩ := setAll_ext (is := is) (vs := vs) (σ := σ.set i (some v))
    refine ⟨by show (Al.setAll (σ.set i (some v)) is vs).length = _; rw [a, List.length_set], fun k hk => ?_⟩
    show (Al.setAll (σ.set i (some v)) is vs)[k]? = _
    rw [b k (fun z => hk (List.mem_cons_of_mem _ z)), List.getElem?_set_ne (fun z => hk (by rw [z]; exact List.mem_cons_self))]
theorem wipe_at {σ : St} {k : Nat} : ∀ {vs : List Nat}, k < σ.length → (wipe σ vs)[k]? = if k ∈ vs then some none else σ[k]?
  | [], _ => by simp [wipe]
  | v :: vs, hk => by
    unfold wipe
    by_cases h : v = k
    · subst h
      rw [List.getElem?_set_self (by rw [wipe_length]; exact hk), if_pos List.mem_cons_self]
    · rw [List.getElem?_set_ne h, wipe_at hk]
      by_cases hm : k ∈ vs
      · rw [if_pos hm, if_pos (List.mem_cons_of_mem _ hm)]
      · rw [if_neg hm, if_neg (fun z => (List.mem_cons.mp z).elim (fun z => h z.symm) hm)]
theorem wipe_ext {σ σ' : St} {vs : List Nat} (hl : σ'.length = σ.length) (h : ∀ k, k ∉ vs → σ'[k]? = σ[k]?) : wipe σ' vs = wipe σ vs := by
  refine List.ext_getElem? fun k => ?_
  by_cases hk : k < σ.length
  · rw [wipe_at (by omega), wipe_at hk]
    by_cases hm : k ∈ vs
    · rw [if_pos hm, if_pos hm]
    · rw [if_neg hm, if_neg hm, h k hm]
  · rw [List.getElem?_eq_none (by rw [wipe_length]; omega), List.getElem?_eq_none (by rw [wipe_length]; omega)]
theorem wipe_wipe {σ : St} {vs : List Nat} : wipe (wipe σ vs) vs = wipe σ vs := by
  refine List.ext_getElem? fun k => ?_
  by_cases hk : k < σ.length
  · rw [wipe_at (by rw [wipe_length]; exact hk)]
    by_cases hm : k ∈ vs
    · rw [if_pos hm, wipe_at hk, if_pos hm]
    · rw [if_neg hm]
  · rw [List.getElem?_eq_none (by rw [wipe_length, wipe_length]; omega), List.getElem?_eq_none (by rw [wipe_length]; omega)]
/-- a target takes a value: statements -/
theorem tg_stm {T : Tg} {d : D} {v : V} {e' : En} (x : SR cm lk sp G F0 H σ e) (r : Rep cm G d v) (h : tgD T d e = some e') {Q : St → Hp → Prop} (q : ∀ σ', SR cm lk sp G F0 H σ' e' → Q σ' H) : tgT K T v σ H Q := by
  cases T with
  | nm i => cases h; exact q _ (x.setF r)
  | tp is =>
    have w : ∀ p u, G p = some u → ¬ Lockable u → H p = some u := by
      obtain ⟨F, l, x, _⟩ := x
      exact fun p u a b => x.w.pl a b
    cases d with
    | tup ds =>
      have h : (if ds.length = is.length then some (putAll e is ds) else none) = some e' := h
      split at h
      · rename_i hl
        cases h
        obtain ⟨p, u, rfl, hp, vs, rfl, rs⟩ := r
        exact ⟨p, vs, rfl, .inl (SqT.of (w p _ hp fun z => z)), by rw [rs.len]; exact hl, q _ (x.setAll rs)⟩
      · cases h
    | lst ds =>
      have h : (if ds.length = is.length then some (putAll e is ds) else none) = some e' := h
      split at h
      · rename_i hl
        cases h
        obtain ⟨p, u, rfl, hp, vs, rfl, rs⟩ := r
        exact ⟨p, vs, rfl, .inr (SqL.of (w p _ hp fun z => z)), by rw [rs.len]; exact hl, q _ (x.setAll rs)⟩
      · cases h
    | _ => cases h
/-- .. within a comprehension -/
theorem tg_exp {T : Tg} {d : D} {v : V} {e' : En} {vs : List Nat} (x : ER cm lk sp G F H (wipe σ vs) e) (r : Rep cm G d v) (h : tgD T d e = some e') (hv : ∀ k ∈ T.slots, k ∈ vs) {Q : St → Hp → Prop}
    (q : ∀ σ', ER cm lk sp G F H σ' e' → wipe σ' vs = wipe σ vs → Q σ' H) : tgT K T v (wipe σ vs) H Q := by
  have wp : ∀ {is : List Nat} {us : List V}, (∀ k ∈ is, k ∈ vs) → wipe (setAll (wipe σ vs) is us) vs = wipe σ vs := fun {is us} hi => by
    obtain ⟨a, b⟩ := setAll_ext (is := is) (vs := us) (σ := wipe σ vs)
    rw [wipe_ext a fun k hk => b k fun z => hk (hi k z), wipe_wipe]
  cases T with
  | nm i => cases h; exact q _ (x.setF r) (wp (is := [i]) (us := [v]) hv)
  | tp is =>
    have w : ∀ p u, G p = some u → ¬ Lockable u → H p = some u := fun p u a b => x.w.pl a b
    cases d with
    | tup ds =>
      have h : (if ds.length = is.length then some (putAll e is ds) else none) = some e' := h
      split at h
      · rename_i hl
        cases h
        obtain ⟨p, u, rfl, hp, us, rfl, rs⟩ := r
        exact ⟨p, us, rfl, .inl (SqT.of (w p _ hp fun z => z)), by rw [rs.len]; exact hl, q _ (x.setAll rs) (wp hv)⟩
      · cases h
    | lst ds =>
      have h : (if ds.length = is.length then some (putAll e is ds) else none) = some e' := h
      split at h
      · rename_i hl
        cases h
        obtain ⟨p, u, rfl, hp, us, rfl, rs⟩ := r
        exact ⟨p, us, rfl, .inr (SqL.of (w p _ hp fun z => z)), by rw [rs.len]; exact hl, q _ (x.setAll rs) (wp hv)⟩
      · cases h
    | _ => cases h
end

/-! ### what is walked -/
/-- J walks ds, in every later world -/
def Foll (cm : CM) (lk : Addr → Option Obj) (sp : Addr) (G : Hp) (ds : List D) (J : It) : Prop := ∀ G1 F1 H1 S1 i, Le G G1 → WR lk sp G1 F1 H1 S1 →
  (∀ d, ds[i]? = some d → J.go i H1 ∧ ∀ x H2, J.yld i H1 x H2 → ∃ G2, Le G1 G2 ∧ WR lk sp G2 F1 H2 S1 ∧ Rep cm G2 d x) ∧ (ds.length ≤ i → J.stop i H1)
def IOk (cm : CM) (t : TI) (f : AF) : Prop := ∀ lk sp G F H σ e ds S', ER cm lk sp G F H σ e → f e = some (ds, S') → ∀ R : It → Hp → Prop,
  (∀ G' H' J, Le G G' → WR lk sp G' F H' S' → Foll cm lk sp G' ds J → R J H') → t σ H R
def tI (cm : CM) (f : AF) : TI := fun σ H R => ∃ lk sp G F e ds S', ER cm lk sp G F H σ e ∧ f e = some (ds, S') ∧ ∀ G' H' J, Le G G' → WR lk sp G' F H' S' → Foll cm lk sp G' ds J → R J H'
def JI (X : Cx) (cm : CM) (tg a : Expr) (f : AF) : Prop := PI X tg a (tI cm f)
theorem JI.of {X : Cx} {cm : CM} {tg a : Expr} {f : AF} : (∃ t, PI X tg a t ∧ IOk cm t f) → JI X cm tg a f := fun ⟨t, p, q⟩ => ⟨fun pins s σ H R I ⟨lk, sp, G, F, e, r, S', x, hf, k⟩ => p.run pins s σ H R I (q lk sp G F H σ e r S' x hf R k)⟩
theorem JI.ex {X : Cx} {cm : CM} {tg a : Expr} {f : AF} (h : JI X cm tg a f) : ∃ t, PI X tg a t ∧ IOk cm t f := ⟨_, h, fun lk sp G F H σ e r S' x hf Q k => ⟨lk, sp, G, F, e, r, S', x, hf, k⟩⟩
theorem PI_or {X : Cx} {tg a : Expr} {t t' : TI} (h : PI X tg a t) (h' : PI X tg a t') : PI X tg a (fun σ H R => t σ H R ∨ t' σ H R) :=
  ⟨fun pins s σ H R I k => k.elim (h.run pins s σ H R I) (h'.run pins s σ H R I)⟩
section
variable {X : Cx} {cm : CM} {tg a : Expr} {f : FE} {pos p : Pos}
/-- the items of a list, a tuple -/
def fItems (f : FE) : AF := fun e => (f e).bind fun r => match r.1.d with
  | .lst ds => some (ds, r.2)
  | .tup ds => some (ds, r.2)
  | _ => none
theorem foll_lst {K : PySem.W.Frag} {lk : Addr → Option Obj} {sp a : Addr} {G : Hp} {vs : List V} {ds : List D} (hp : G a = some (.lst vs)) (r : Reps cm G ds vs) : Foll cm lk sp G ds (Itl K a) := fun G1 F1 H1 S1 i g w => by
  have hq : SqL K H1 a vs := SqL.of (w.pl (g _ _ hp) fun z => z)
  refine ⟨fun d hd => ?_, fun hi => ⟨vs, hq, by rw [r.len]; exact hi⟩⟩
  obtain ⟨v, h1, h2⟩ := r.get hd
  refine ⟨⟨vs, v, hq, h1⟩, fun x H2 y => ?_⟩
  obtain ⟨y1, y2⟩ := y
  subst y1
  have := y2 vs hq
  rw [h1] at this; cases this
  exact ⟨G1, Le.rfl, w, h2.mono g d v⟩
theorem foll_tup {K : PySem.W.Frag} {lk : Addr → Option Obj} {sp a : Addr} {G : Hp} {vs : List V} {ds : List D} (hp : G a = some (.tup vs)) (r : Reps cm G ds vs) : Foll cm lk sp G ds (Itt K a) := fun G1 F1 H1 S1 i g w => by
  have hq : SqT K H1 a vs := SqT.of (w.pl (g _ _ hp) fun z => z)
  refine ⟨fun d hd => ?_, fun hi => ⟨vs, hq, by rw [r.len]; exact hi⟩⟩
  obtain ⟨v, h1, h2⟩ := r.get hd
  refine ⟨⟨vs, v, hq, h1⟩, fun x H2 y => ?_⟩
  obtain ⟨y1, y2⟩ := y
  subst y1
  have := y2 vs hq
  rw [h1] at this; cases this
  exact ⟨G1, Le.rfl, w, h2.mono g d v⟩
theorem ji_seq (h : JE X cm a f) : JI X cm tg a (fItems f) := by
  obtain ⟨t, p, q⟩ := h.ex
  refine .of ⟨_, PI_or (pi_list p) (pi_tup p), fun lk sp G F H σ e ds S' x hf R k => ?_⟩
  obtain ⟨⟨r, S1⟩, z1, hf⟩ := Option.bind_eq_some_iff.mp hf
  cases hd : r.d with
  | lst xs =>
    simp only [hd] at hf
    cases hf
    refine .inl (q lk sp G F H σ e r _ x z1 _ fun G1 H1 v g1 w1 r1 => ?_)
    obtain ⟨G2, g2, w2, r2⟩ := r1.freeze w1
    rw [hd] at r2
    obtain ⟨b, u, rfl, hb, vs, rfl, rs⟩ := r2
    exact ⟨b, rfl, ⟨vs, SqL.of (w2.pl hb fun z => z)⟩, k G2 H1 _ (g1.trans g2) w2 (foll_lst hb rs)⟩
  | tup xs =>
    simp only [hd] at hf
    cases hf
    refine .inr (q lk sp G F H σ e r _ x z1 _ fun G1 H1 v g1 w1 r1 => ?_)
    obtain ⟨G2, g2, w2, r2⟩ := r1.freeze w1
    rw [hd] at r2
    obtain ⟨b, u, rfl, hb, vs, rfl, rs⟩ := r2
    exact ⟨b, rfl, ⟨vs, SqT.of (w2.pl hb fun z => z)⟩, k G2 H1 _ (g1.trans g2) w2 (foll_tup hb rs)⟩
  | _ => simp only [hd] at hf; cases hf
/-- range -/
def rngD (lo : Int) (n : Nat) : List D := (List.range n).map fun i : Nat => .int (lo + i)
theorem foll_rng {lk : Addr → Option Obj} {sp : Addr} {G : Hp} {lo : Int} {n : Nat} : Foll cm lk sp G (rngD lo n) (Itr lo n) := fun G1 F1 H1 S1 i g w => by
  have hl : (rngD lo n).length = n := by unfold rngD; rw [List.length_map, List.length_range]
  refine ⟨fun d hd => ?_, fun hi => by rw [hl] at hi; exact hi⟩
  have hi : i < n := by rw [← hl]; exact (List.getElem?_eq_some_iff.mp hd).1
  have e : d = .int (lo + i) := by
    unfold rngD at hd
    rw [List.getElem?_map, List.getElem?_range hi] at hd
    exact (Option.some.inj hd).symm
  subst e
  refine ⟨hi, fun x H2 y => ?_⟩
  obtain ⟨y1, y2⟩ := y
  subst y1
  subst y2
  exact ⟨G1, Le.rfl, w, rfl⟩
def fRng1 (f : AF) : AF := fun e => (f e).bind fun r => match r.1 with
  | [.int j] => if -(2 ^ 62) ≤ j ∧ j < 2 ^ 62 then some (rngD 0 j.toNat, r.2) else none
  | _ => none
def fRng2 (f : AF) : AF := fun e => (f e).bind fun r => match r.1 with
  | [.int i, .int j] => if -(2 ^ 62) ≤ i ∧ i < 2 ^ 62 ∧ -(2 ^ 62) ≤ j ∧ j < 2 ^ 62 then some (rngD i (j - i).toNat, r.2) else none
  | _ => none
theorem RepT.int {G F : Hp} {i : Int} {v : V} : RepT cm G F (.int i) v → v = .int i
  | .inl r => r
  | .inr ⟨_, _, _, _, r⟩ => r.elim
theorem RepT.str {G F : Hp} {i : Str} {v : V} : RepT cm G F (.str i) v → v = .str i
  | .inl r => r
  | .inr ⟨_, _, _, _, r⟩ => r.elim
theorem RepT.bl {G F : Hp} {i : Bool} {v : V} : RepT cm G F (.bl i) v → v = .bl i
  | .inl r => r
  | .inr ⟨_, _, _, _, r⟩ => r.elim
theorem RepT.non {G F : Hp} {v : V} : RepT cm G F .non v → v = .non
  | .inl r => r
  | .inr ⟨_, _, _, _, r⟩ => r.elim
theorem ji_range1 {b : Expr} {fa : AF} (hg : Gl X "range") (hm : X.mg "range" = none) (ha : JA X cm [b] fa) (hs : starEach [b] X.env = [(false, eval b X.env)] := by rfl) : JI X cm tg (.Call (.Name "range" p) [b] [] pos) (fRng1 fa) := by
  obtain ⟨t, pp, q⟩ := ha.ex
  refine .of ⟨_, pi_range1 hg hm pp hs, fun lk sp G F H σ e ds S' x hf R k => ?_⟩
  obtain ⟨⟨r, S1⟩, z1, hf⟩ := Option.bind_eq_some_iff.mp hf
  refine q lk sp G F H σ e r S1 x z1 _ fun G1 F1 H1 vs g1 f1 w1 r1 => ?_
  split at hf
  · rename_i j hj
    subst hj
    split at hf
    · rename_i hb
      cases hf
      obtain ⟨v, t, rfl, h1, rfl⟩ := r1
      rw [h1.int]
      exact ⟨j, rfl, hb.1, hb.2, k G1 H1 _ g1 (w1.lessF f1) foll_rng⟩
    · cases hf
  · cases hf
theorem ji_range2 {b c : Expr} {fa : AF} (hg : Gl X "range") (hm : X.mg "range" = none) (ha : JA X cm [b, c] fa) (hs : starEach [b, c] X.env = [(false, eval b X.env), (false, eval c X.env)] := by rfl) (hs2 : starEach [c] X.env = [(false, eval c X.env)] := by rfl) :
    JI X cm tg (.Call (.Name "range" p) [b, c] [] pos) (fRng2 fa) := by
  obtain ⟨t, pp, q⟩ := ha.ex
  refine .of ⟨_, pi_range2 hg hm pp hs hs2, fun lk sp G F H σ e ds S' x hf R k => ?_⟩
  obtain ⟨⟨r, S1⟩, z1, hf⟩ := Option.bind_eq_some_iff.mp hf
  refine q lk sp G F H σ e r S1 x z1 _ fun G1 F1 H1 vs g1 f1 w1 r1 => ?_
  split at hf
  · rename_i i j hj
    subst hj
    split at hf
    · rename_i hb
      cases hf
      obtain ⟨v, t, rfl, h1, v', t', rfl, h2, rfl⟩ := r1
      rw [h1.int, h2.int]
      exact ⟨i, j, rfl, hb, k G1 H1 _ g1 (w1.lessF f1) foll_rng⟩
    · cases hf
  · cases hf
end

/-! ### for, while -/
def forF (T : Tg) (b : FS) : List D → FS
  | [], e => some (.nx, e)
  | d :: ds, e => (tgD T d e).bind fun e1 => (b e1).bind fun r => match r.1 with
    | .nx => forF T b ds r.2
    | .ct => forF T b ds r.2
    | .bk => some (.nx, r.2)
    | .rt x => some (.rt x, r.2)
def sFor (s : AF) (T : Tg) (b : FS) : FS := fun e => (s e).bind fun r => forF T b r.1 (e.st r.2)
theorem for_core {K : PySem.W.Frag} {cm : CM} {wi : TI} {tb : TS} {T : Tg} {b : FS} {lk : Addr → Option Obj} {sp : Addr} {G F0 F H : Hp} {σ : St} {e e' : En} {fl : Fl} {S1 : Option Spr} {ds : List D} {D : Ends} (hb : SOk cm tb b)
    (l : Le F0 F) (x : ER cm lk sp G F H σ e) (y : Out F F0 σ e.cs)
    (hi0 : ∀ R : It → Hp → Prop, (∀ G' H' J, Le G G' → WR lk sp G' F H' S1 → Foll cm lk sp G' ds J → R J H') → wi σ H R)
    (hf : forF T b ds (e.st S1) = some (fl, e')) (k : Post cm lk sp G F0 D fl e') : tFor wi (tgT K T) tb D σ H := by
  refine hi0 _ fun G' H' J g' w' fo => ?_
  refine ⟨fun i m σ1 H1 => ∃ G1 e1, Le G' G1 ∧ SR cm lk sp G1 F0 H1 σ1 e1 ∧ i ≤ ds.length ∧ m = ds.length - i ∧ forF T b (ds.drop i) e1 = some (fl, e'), ⟨_, G', e.st S1, Le.rfl, SR.next l x y g' w', Nat.zero_le _, rfl, by rw [List.drop_zero]; exact hf⟩, ?_⟩
  rintro i m σ1 H1 ⟨G1, e1, g1, x1, hi, rfl, h1⟩
  obtain ⟨F1, l1, x1, y1⟩ := x1
  by_cases hlt : i < ds.length
  · obtain ⟨go, yl⟩ := (fo G1 F1 H1 _ i g1 x1.w).1 ds[i] (List.getElem?_eq_getElem hlt)
    rw [List.drop_eq_getElem_cons hlt] at h1
    unfold forF at h1
    obtain ⟨e2, t1, h1⟩ := Option.bind_eq_some_iff.mp h1
    obtain ⟨⟨fl2, e3⟩, t2, h1⟩ := Option.bind_eq_some_iff.mp h1
    refine .inr ⟨go, fun σ' H' => ∃ G2 e2', Le G' G2 ∧ SR cm lk sp G2 F0 H' σ' e2' ∧ forF T b (ds.drop (i + 1)) e2' = some (fl, e'), fun σ' H' ⟨G2, e2', a1, a2, a3⟩ => ⟨_, by omega, G2, e2', a1, a2, hlt, rfl, a3⟩, fun v H2 yy => ?_⟩
    obtain ⟨G2, g2, w2, r2⟩ := yl v H2 yy
    have x2 : SR cm lk sp G2 F0 H2 σ1 e1 := SR.next l1 x1 y1 g2 w2
    refine tg_stm x2 r2 t1 fun σ2 x3 => ?_
    refine hb lk sp G2 F0 H2 σ2 e2 fl2 e3 x3 t2 _ ?_
    cases fl2 with
    | nx => exact fun G3 H3 σ3 g3 x4 => ⟨G3, e3, (g1.trans g2).trans g3, x4, h1⟩
    | ct => exact fun G3 H3 σ3 g3 x4 => ⟨G3, e3, (g1.trans g2).trans g3, x4, h1⟩
    | bk => cases h1; exact fun G3 H3 σ3 g3 x4 => k G3 H3 σ3 (((g'.trans g1).trans g2).trans g3) x4
    | rt r => cases h1; exact fun G3 H3 v3 g3 w3 r3 => k G3 H3 v3 (((g'.trans g1).trans g2).trans g3) w3 r3
  · have e0 : i = ds.length := by omega
    subst e0
    rw [List.drop_eq_nil_of_le (Nat.le_refl _)] at h1
    cases h1
    exact .inl ⟨(fo G1 F1 H1 _ _ g1 x1.w).2 (Nat.le_refl _), k G1 H1 σ1 (g'.trans g1) ⟨F1, l1, x1, y1⟩⟩
theorem for_ok {K : PySem.W.Frag} {cm : CM} {wi : TI} {tb : TS} {s : AF} {T : Tg} {b : FS} (hi : IOk cm wi s) (hb : SOk cm tb b) : SOk cm (tFor wi (tgT K T) tb) (sFor s T b) := fun lk sp G F0 H σ e fl e' x hf D k => by
  obtain ⟨⟨ds, S1⟩, z1, hf⟩ := Option.bind_eq_some_iff.mp hf
  obtain ⟨F, l, x, y⟩ := x
  exact for_core hb l x y (fun R q => hi lk sp G F H σ e ds S1 x z1 R q) hf k
theorem js_for {X : Cx} {cm : CM} {tg iter : Expr} {body : List Stmt} {pos : Pos} {s : AF} {T : Tg} {b : FS} (hp : PassesOwn (model X.prog X.w) X.A X.env X.xe) (hc : X.calm = true) (hi : JI X cm tg iter s) (hg : JG X tg T) (hb : JB X cm body b)
    (hs : ∀ x, foldedSetIterable iter X.env x = pure x := by intro _; rfl) : JS X cm (.For tg iter body [] pos) (sFor s T b) := by
  obtain ⟨t, p, q⟩ := hi.ex
  obtain ⟨t', p', q'⟩ := hb.ex
  exact .of ⟨_, ps_for hp hc p hg p' hs, for_ok q q'⟩
def sWh (c : TF) (b : FS) : Nat → FS
  | 0, _ => none
  | n + 1, e => (c e).bind fun r => if r.1 = true then (b (e.st r.2)).bind fun q => match q.1 with
    | .nx => sWh c b n q.2
    | .ct => sWh c b n q.2
    | .bk => some (.nx, q.2)
    | .rt x => some (.rt x, q.2)
    else some (.nx, e.st r.2)
theorem js_while (n : Nat) {X : Cx} {cm : CM} {c : Expr} {body : List Stmt} {pos : Pos} {tc : TF} {b : FS} (hp : PassesOwn (model X.prog X.w) X.A X.env X.xe) (hc : JT X cm c tc) (hb : JB X cm body b) : JS X cm (.While c body [] pos) (sWh tc b n) := by
  obtain ⟨t, p, q⟩ := hc.ex
  obtain ⟨t', p', q'⟩ := hb.ex
  refine .of ⟨_, ps_while hp p p', fun lk sp G F0 H σ e fl e' x hf D k => ?_⟩
  refine ⟨fun m σ1 H1 => ∃ G1 e1, Le G G1 ∧ SR cm lk sp G1 F0 H1 σ1 e1 ∧ sWh tc b m e1 = some (fl, e'), ⟨n, G, e, Le.rfl, x, hf⟩, ?_⟩
  rintro m σ1 H1 ⟨G1, e1, g1, x1, h1⟩
  cases m with
  | zero => cases h1
  | succ m =>
    unfold sWh at h1
    obtain ⟨⟨bb, S1⟩, t1, h1⟩ := Option.bind_eq_some_iff.mp h1
    obtain ⟨F1, l1, x1, y1⟩ := x1
    refine q lk sp G1 F1 H1 σ1 e1 bb S1 x1 t1 _ fun G2 H2 g2 w2 => ?_
    have x2 : SR cm lk sp G2 F0 H2 σ1 (e1.st S1) := SR.next l1 x1 y1 g2 w2
    cases bb with
    | false => cases h1; exact k G2 H2 σ1 (g1.trans g2) x2
    | true =>
      obtain ⟨⟨fl2, e3⟩, t2, h1⟩ := Option.bind_eq_some_iff.mp h1
      refine ⟨fun σ' H' => ∃ G2 e2', Le G G2 ∧ SR cm lk sp G2 F0 H' σ' e2' ∧ sWh tc b m e2' = some (fl, e'), fun σ' H' ⟨G2, e2', a1, a2, a3⟩ => ⟨m, Nat.lt_succ_self m, G2, e2', a1, a2, a3⟩, ?_⟩
      refine q' lk sp G2 F0 H2 σ1 _ fl2 e3 x2 t2 _ ?_
      cases fl2 with
      | nx => exact fun G3 H3 σ3 g3 x4 => ⟨G3, e3, (g1.trans g2).trans g3, x4, h1⟩
      | ct => exact fun G3 H3 σ3 g3 x4 => ⟨G3, e3, (g1.trans g2).trans g3, x4, h1⟩
      | bk => cases h1; exact fun G3 H3 σ3 g3 x4 => k G3 H3 σ3 ((g1.trans g2).trans g3) x4
      | rt r => cases h1; exact fun G3 H3 v3 g3 w3 r3 => k G3 H3 v3 ((g1.trans g2).trans g3) w3 r3

/-! ### argument lists -/
section
variable {X : Cx} {cm : CM} {a : Expr} {as : List Expr}
def aNil : AF := fun e => some ([], e.S)
def aCons (f : PF) (g : AF) : AF := fun e => (f e).bind fun r => (g (e.st r.2)).map fun q => (r.1 :: q.1, q.2)
def kCons (f : FE) (g : AF) : AF := fun e => (f e).bind fun r => (g (e.st r.2)).map fun q => (r.1.d :: q.1, q.2)
theorem ja_nil : JA X cm [] aNil := .of ⟨_, pa_nil, fun lk sp G F H σ e ds S' x hf Q k => by cases hf; exact k G F H [] Le.rfl Le.rfl x.w rfl⟩
theorem jk_nil : JK X cm [] aNil := .of ⟨_, pa_nil, fun lk sp G F H σ e ds S' x hf Q k => by cases hf; exact k G H [] Le.rfl x.w rfl⟩
theorem ja_cons {f : PF} {g : AF} (h1 : JP X cm a f) (h2 : JA X cm as g) (hs : starEach (a :: as) X.env = (false, eval a X.env) :: starEach as X.env := by rfl) : JA X cm (a :: as) (aCons f g) := by
  obtain ⟨t, p, q⟩ := h1.ex
  obtain ⟨t', p', q'⟩ := h2.ex
  refine .of ⟨_, pa_cons p p' hs, fun lk sp G F H σ e ds S' x hf Q k => ?_⟩
  obtain ⟨⟨d, S1⟩, z1, hf⟩ := Option.bind_eq_some_iff.mp hf
  obtain ⟨⟨es, S2⟩, z2, hf⟩ := Option.map_eq_some_iff.mp hf
  cases hf
  refine q lk sp G F H σ e d S1 x z1 _ fun G1 F1 H1 v g1 f1 w1 r1 => ?_
  refine q' lk sp G1 F1 H1 σ _ es S2 (x.next g1 f1 w1) z2 _ fun G2 F2 H2 vs g2 f2 w2 r2 => ?_
  exact k G2 F2 H2 _ (g1.trans g2) (f1.trans f2) w2 ⟨v, vs, rfl, r1.mono g2 f2, r2⟩
theorem jk_cons {f : FE} {g : AF} (h1 : JE X cm a f) (h2 : JK X cm as g) (hs : starEach (a :: as) X.env = (false, eval a X.env) :: starEach as X.env := by rfl) : JK X cm (a :: as) (kCons f g) := by
  obtain ⟨t, p, q⟩ := h1.ex
  obtain ⟨t', p', q'⟩ := h2.ex
  refine .of ⟨_, pa_cons p p' hs, fun lk sp G F H σ e ds S' x hf Q k => ?_⟩
  obtain ⟨⟨d, S1⟩, z1, hf⟩ := Option.bind_eq_some_iff.mp hf
  obtain ⟨⟨es, S2⟩, z2, hf⟩ := Option.map_eq_some_iff.mp hf
  cases hf
  refine q lk sp G F H σ e d S1 x z1 _ fun G1 H1 v g1 w1 r1 => ?_
  obtain ⟨G1', g1', w1', r1'⟩ := r1.freeze w1
  refine q' lk sp G1' F H1 σ _ es S2 (x.next (g1.trans g1') Le.rfl w1') z2 _ fun G2 H2 vs g2 w2 r2 => ?_
  exact k G2 H2 _ ((g1.trans g1').trans g2) w2 ⟨v, vs, rfl, r1'.mono g2 _ _, r2⟩
/-- displays -/
def fTup (f : AF) : FE := fun e => (f e).bind fun r => if r.1.length ≤ 10000 then some (fz (.tup r.1), r.2) else none
def fLst (f : AF) : FE := fun e => (f e).bind fun r => if r.1.length ≤ 10000 then some (nw (.lst r.1), r.2) else none
theorem sz_le {n : Nat} (h : n ≤ 10000) : n ≤ sizeLine := Nat.le_trans h (by decide)
theorem j_tup {f : AF} {x1 : Nat} {pos : Pos} (h : JK X cm as f) : JE X cm (.Tuple as x1 pos) (fTup f) := by
  obtain ⟨t, p, q⟩ := h.ex
  refine .of ⟨_, pe_tup p, fun lk sp G F H σ e r S' x hf Q k => ?_⟩
  obtain ⟨⟨ds, S1⟩, z1, hf⟩ := Option.bind_eq_some_iff.mp hf
  split at hf
  · rename_i hl
    cases hf
    refine q lk sp G F H σ e ds S1 x z1 _ fun G1 H1 vs g1 w1 r1 => ⟨by rw [r1.len]; exact sz_le hl, fun b hb => ?_⟩
    have gn := w1.gn hb
    exact k (upd G1 b (.tup vs)) _ _ (g1.trans (Le.upd gn)) ((w1.new hb).still upd_same gn (w1.fn hb) (w1.spn hb)) (ResR.fz (ObjR.rep upd_same ⟨vs, rfl, r1.mono (Le.upd gn)⟩))
  · cases hf
theorem j_lst {f : AF} {pos : Pos} (h : JK X cm as f) : JE X cm (.List as pos) (fLst f) := by
  obtain ⟨t, p, q⟩ := h.ex
  refine .of ⟨_, pe_lst p, fun lk sp G F H σ e r S' x hf Q k => ?_⟩
  obtain ⟨⟨ds, S1⟩, z1, hf⟩ := Option.bind_eq_some_iff.mp hf
  split at hf
  · rename_i hl
    cases hf
    refine q lk sp G F H σ e ds S1 x z1 _ fun G1 H1 vs g1 w1 r1 => ⟨by rw [r1.len]; exact sz_le hl, fun b hb => ?_⟩
    exact k G1 _ _ g1 (w1.new hb) (ResR.nw upd_same ⟨vs, rfl, r1⟩ (w1.gn hb) (w1.fn hb) (w1.spn hb))
  · cases hf
end

/-! ### comprehensions -/
def En.wipe (e : En) : List Nat → En
  | [] => e
  | v :: vs => (e.wipe vs).put v .no
def compF (T : Tg) (c : TF) (f : FE) (e : En) : List D → Option Spr → Option (List D × Option Spr)
  | [], S => some ([], S)
  | d :: ds, S => (tgD T d (e.st S)).bind fun e1 => (c e1).bind fun b => if b.1 = true then (f (e1.st b.2)).bind fun r => (compF T c f e ds r.2).map fun q => (r.1.d :: q.1, q.2) else compF T c f e ds b.2
def fComp (s : AF) (T : Tg) (vs : List Nat) (c : TF) (f : FE) : FE := fun e => (s e).bind fun r => if r.1.length ≤ 100000 ∧ ∀ k ∈ T.slots, k ∈ vs then (compF T c f (e.wipe vs) r.1 r.2).map fun q => (nw (.lst q.1), q.2) else none
theorem putno {cm : CM} {sp : Addr} {G F : Hp} {σ : St} {cs : List Cell} (i : Nat) (h : CellsR cm sp G F σ cs) : CellsR cm sp G F (σ.set i none) (cs.set i .no) := fun j c q => by
  by_cases hj : j = i
  · subst hj
    have hi : j < cs.length := by
      obtain ⟨q1, _⟩ := List.getElem?_eq_some_iff.mp q
      rwa [List.length_set] at q1
    rw [List.getElem?_set_self hi] at q
    cases q
    obtain ⟨o, h1, _⟩ := h j cs[j] (List.getElem?_eq_getElem hi)
    exact ⟨_, List.getElem?_set_self (List.getElem?_eq_some_iff.mp h1).1, trivial⟩
  · rw [List.getElem?_set_ne (Ne.symm hj)] at q
    obtain ⟨o, h1, h2⟩ := h j c q
    exact ⟨o, by rw [List.getElem?_set_ne (Ne.symm hj)]; exact h1, h2⟩
theorem wiped {cm : CM} {sp : Addr} {G F : Hp} {σ : St} {e : En} : ∀ (vs : List Nat), CellsR cm sp G F σ e.cs → CellsR cm sp G F (wipe σ vs) (e.wipe vs).cs
  | [], h => h
  | v :: vs, h => putno v (wiped vs h)
theorem putnoS {F : Hp} {σ : St} {cs : List Cell} (i : Nat) (h : Sep F σ cs) : Sep F (σ.set i none) (cs.set i .no) := fun a b c1 c2 o1 o2 p hab a1 a2 b1 b2 f1 f2 => by
  by_cases ha : a = i
  · subst ha
    obtain ⟨rfl, _⟩ := putn a1
    exact f1
  · by_cases hb : b = i
    · subst hb
      obtain ⟨rfl, _⟩ := putn a2
      exact f2
    · exact h a b c1 c2 o1 o2 p hab (putc ha a1) (putc hb a2) (puts ha b1) (puts hb b2) f1 f2
theorem wipedS {F : Hp} {σ : St} {e : En} : ∀ (vs : List Nat), Sep F σ e.cs → Sep F (wipe σ vs) (e.wipe vs).cs
  | [], h => h
  | v :: vs, h => putnoS v (wipedS vs h)
theorem wipe_S {e : En} : ∀ (vs : List Nat), (e.wipe vs).S = e.S
  | [] => rfl
  | v :: vs => wipe_S (e := e) vs
theorem wipe_B {e : En} : ∀ (vs : List Nat), (e.wipe vs).B = e.B
  | [] => rfl
  | v :: vs => wipe_B (e := e) vs
theorem st_wipe {e : En} {S : Option Spr} : ∀ (vs : List Nat), (e.st S).wipe vs = (e.wipe vs).st S
  | [] => rfl
  | v :: vs => by show ((e.st S).wipe vs).put v .no = _; rw [st_wipe vs]; rfl
def tYes' : TF := fun e => some (true, e.S)
def JTs (X : Cx) (cm : CM) (ifs : List Expr) (c : TF) : Prop := PTs X ifs (tT cm c)

theorem jts_nil {X : Cx} {cm : CM} : JTs X cm [] tYes' := ⟨fun pins s σ H Q I ⟨lk, sp, G, F, e, b, S', x, hf, k⟩ => by
  cases hf
  exact (pts_nil (X := X)).run pins s σ H Q I (k G H Le.rfl x.w)⟩
theorem jts_one {X : Cx} {cm : CM} {c : Expr} {f : TF} (h : JT X cm c f) : JTs X cm [c] f := pts_one h
theorem comp_core {K : PySem.W.Frag} {cm : CM} {wi : TI} {T : Tg} {vs : List Nat} {c : TF} {f : FE} {lk : Addr → Option Obj} {sp : Addr} {G F H : Hp} {σ : St} {e : En} {S1 S2 : Option Spr} {ds rs : List D} {Q : VK} (x : ER cm lk sp G F H σ e)
    (hi0 : ∀ R : It → Hp → Prop, (∀ G' H' J, Le G G' → WR lk sp G' F H' S1 → Foll cm lk sp G' ds J → R J H') → wi σ H R) (hz : ds.length ≤ 100000) (hvs : ∀ k ∈ T.slots, k ∈ vs) (z2 : compF T c f (e.wipe vs) ds S1 = some (rs, S2))
    (k : ∀ G' H' v, Le G G' → WR lk sp G' F H' S2 → ResR cm sp S2 G' F H' v (nw (.lst rs)) → Q v H') : tLc wi (tgT K T) (tT cm c) (tE cm f) vs σ H Q := by
  refine hi0 _ fun G' H' J g' w' fo Dl hD => ?_
  have cw : CellsR cm sp G' F (wipe σ vs) (e.wipe vs).cs := (wiped vs x.c).mono g' Le.rfl
  refine ⟨fun i m H1 => ∃ G1 acc S, Le G' G1 ∧ WR lk sp G1 F H1 S ∧ G1 Dl = none ∧ F Dl = none ∧ (∀ s, S = some s → Dl ≠ sp) ∧ i ≤ ds.length ∧ m = ds.length - i ∧ acc.length ≤ i ∧
    ∃ us, H1 Dl = some (.lst us) ∧ Reps cm G1 acc us ∧ ∃ more, compF T c f (e.wipe vs) (ds.drop i) S = some (more, S2) ∧ rs = acc ++ more, ?_, ?_⟩
  · refine ⟨_, G', [], S1, Le.rfl, w'.new hD, w'.gn hD, w'.fn hD, w'.spn hD, Nat.zero_le _, rfl, Nat.zero_le _, [], upd_same, rfl, rs, by rw [List.drop_zero]; exact z2, rfl⟩
  · rintro i m H1 ⟨G1, acc, S, g1, w1, gD, fD, sD, hi', rfl, hacc, us, hDl, ra, more, hm, hrs⟩
    by_cases hlt : i < ds.length
    · obtain ⟨go, yl⟩ := (fo G1 F H1 S i g1 w1).1 ds[i] (List.getElem?_eq_getElem hlt)
      rw [List.drop_eq_getElem_cons hlt] at hm
      unfold compF at hm
      obtain ⟨e1, t1, hm⟩ := Option.bind_eq_some_iff.mp hm
      obtain ⟨⟨b, Sb⟩, t2, hm⟩ := Option.bind_eq_some_iff.mp hm
      -- with the new list kept
      have wk := w1.keep hDl gD sD (fun xs z => by cases z)
      have yl' := fun x H2 y => ((fo G1 (upd F Dl (.lst us)) H1 S i g1 wk).1 ds[i] (List.getElem?_eq_getElem hlt)).2 x H2 y
      refine .inr ⟨go, fun H' => ∃ G1 acc S, Le G' G1 ∧ WR lk sp G1 F H' S ∧ G1 Dl = none ∧ F Dl = none ∧ (∀ s, S = some s → Dl ≠ sp) ∧ acc.length ≤ i + 1 ∧
        ∃ us, H' Dl = some (.lst us) ∧ Reps cm G1 acc us ∧ ∃ more, compF T c f (e.wipe vs) (ds.drop (i + 1)) S = some (more, S2) ∧ rs = acc ++ more,
        fun H' ⟨G1, acc, S, a1, a2, a3, a4, a5, a6, a7⟩ => ⟨_, by omega, G1, acc, S, a1, a2, a3, a4, a5, hlt, rfl, a6, a7⟩, fun v H2 y => ?_⟩
      obtain ⟨G2, g2, w2, r2⟩ := yl' v H2 y
      have fk : Le F (upd F Dl (.lst us)) := Le.upd fD
      have x2 : ER cm lk sp G2 (upd F Dl (.lst us)) H2 (wipe σ vs) ((e.wipe vs).st S) := ⟨w2, cw.mono (g1.trans g2) fk, (wipedS vs x.s).up fk cw, ((show Le (e.wipe vs).B _ by rw [wipe_B]; exact (((x.b.trans g').trans g1).trans g2)))⟩
      refine tg_exp x2 r2 t1 hvs fun σ3 x3 wp => ⟨wp, ?_⟩
      refine ⟨lk, sp, G2, upd F Dl (.lst us), e1, b, Sb, x3, t2, fun G3 H3 g3 w3 => ?_⟩
      have sD3 : ∀ s, Sb = some s → Dl ≠ sp := fun s q z => by
        have := (w3.sp s q).2.2
        rw [← z, upd_same] at this; cases this
      have gD3 : G3 Dl = none := w3.fg Dl _ upd_same
      cases b with
      | false => exact ⟨G3, acc, Sb, (g1.trans g2).trans g3, w3.lessF fk, gD3, fD, sD3, by omega, us, w3.fh Dl _ upd_same, ra.mono (g2.trans g3) _ _, more, hm, hrs⟩
      | true =>
        obtain ⟨⟨r4, S4⟩, t3, hm⟩ := Option.bind_eq_some_iff.mp hm
        obtain ⟨⟨more', S5⟩, t4, hm⟩ := Option.map_eq_some_iff.mp hm
        cases hm
        refine ⟨lk, sp, G3, upd F Dl (.lst us), e1.st Sb, r4, S4, x3.next g3 Le.rfl w3, t3, fun G4 H4 v4 g4 w4 rr => ?_⟩
        obtain ⟨G5, g5, w5, r5⟩ := rr.freeze w4
        have gD5 : G5 Dl = none := w5.fg Dl _ upd_same
        have sD5 : ∀ s, S4 = some s → Dl ≠ sp := fun s q z => by
          have := (w5.sp s q).2.2
          rw [← z, upd_same] at this; cases this
        have gg : Le G' G5 := (((g1.trans g2).trans g3).trans g4).trans g5
        have hD5 := w5.fh Dl _ upd_same
        have ra5 := ra.mono (((g2.trans g3).trans g4).trans g5) _ _
        refine ⟨us, hD5, Nat.lt_of_lt_of_le (by rw [ra.len]; have hz : ds.length ≤ 100000 := hz; omega : us.length < 100001) (by decide), G5, acc ++ [r4.d], S4, gg, ?_, gD5, fD, sD5, by rw [List.length_append]; simp; omega, us ++ [v4], upd_same, ra5.app (Reps.one r5), more', t4, by rw [List.append_assoc]; exact hrs⟩
        have wl := w5.lessF fk
        have ne : ∀ {q : Addr} {u : HO}, G5 q = some u → q ≠ Dl := fun {q u} h z => by rw [z, gD5] at h; cases h
        have nf : ∀ {q : Addr} {u : HO}, F q = some u → q ≠ Dl := fun {q u} h z => by rw [z, fD] at h; cases h
        exact ⟨fun q u h => by rw [upd_ne (ne h)]; exact wl.gh q u h, fun q u h => by rw [upd_ne (nf h)]; exact wl.fh q u h, wl.fg, wl.lg, fun s h => ⟨by rw [upd_ne (sD5 s h).symm]; exact (wl.sp s h).1, (wl.sp s h).2⟩, wl.ft⟩
    · have e0 : i = ds.length := by omega
      subst e0
      rw [List.drop_eq_nil_of_le (Nat.le_refl _)] at hm
      cases hm
      rw [List.append_nil] at hrs
      subst hrs
      exact .inl ⟨(fo G1 F H1 _ _ g1 w1).2 (Nat.le_refl _), k G1 H1 _ (g'.trans g1) w1 (ResR.nw hDl ⟨us, rfl, ra⟩ gD fD sD)⟩
theorem comp_ok {K : PySem.W.Frag} {cm : CM} {wi : TI} {s : AF} {T : Tg} {vs : List Nat} {c : TF} {f : FE} (hi : IOk cm wi s) : EOk cm (tLc wi (tgT K T) (tT cm c) (tE cm f) vs) (fComp s T vs c f) := fun lk sp G F H σ e r S' x hf Q k => by
  obtain ⟨⟨ds, S1⟩, z1, hf⟩ := Option.bind_eq_some_iff.mp hf
  split at hf
  · rename_i hc
    obtain ⟨hz, hvs⟩ := hc
    obtain ⟨⟨rs, S2⟩, z2, hf⟩ := Option.map_eq_some_iff.mp hf
    cases hf
    exact comp_core x (fun R q => hi lk sp G F H σ e ds S1 x z1 R q) hz hvs z2 k
  · cases hf
section
variable {X : Cx} {cm : CM} {elt tg iter : Expr} {ifs : List Expr} {scope : Scope} {own : List (Str × Nat)} {pos : Pos} {s : AF} {T : Tg} {c : TF} {f : FE}
abbrev BlkE (X : Cx) (scope : Scope) (P : Cx → Prop) : Prop := ∀ (s : Shared) (H : Hp) (C : Addr) (cl : List (Str × Addr)) (fp : List Addr), P (X.blk s H scope (compEnvC scope cl C X.env) fp)
theorem j_lc (own : List (Str × Nat)) (hc : X.calm = true) (hN : X.N.Nodup) (hi : JI X cm tg iter s) (ok : BlkOk X.N X.env.scope scope own) (hg : BlkE X scope fun Y => JG Y tg T) (ht : BlkE X scope fun Y => JTs Y cm ifs c) (he : BlkE X scope fun Y => JE Y cm elt f)
    (hs : ∀ x, foldedSetIterable iter X.env x = pure x := by intro _; rfl) : JE X cm (.ListComp elt [⟨tg, iter, ifs, 0⟩] scope pos) (fComp s T (own.map (·.2)) c f) := by
  obtain ⟨t, p, q⟩ := hi.ex
  exact .of ⟨_, pe_lc (g := tgT X.K T) (tt := tT cm c) (te := tE cm f) hc hN p ok hg ht he hs, comp_ok q⟩
theorem js_setLc {i : Nat} {y : Str} {py spos : Pos} (own : List (Str × Nat)) (hc : X.calm = true) (hN : X.N.Nodup) (hyl : X.env.scope.names.lookup y = some .local)
    (hsw : swapsWith (.ListComp elt [⟨tg, iter, ifs, 0⟩] scope pos) (some (.Name y py)) spos.line X.env = pure true) (hi : JI X cm tg iter s) (ok : BlkOk X.N X.env.scope scope own)
    (hg : BlkE X scope fun Y => JG Y tg T) (ht : BlkE X scope fun Y => JTs Y cm ifs c) (he : BlkE X scope fun Y => JE Y cm elt f) (hy : X.N[i]? = some y := by rfl) (hs : ∀ x, foldedSetIterable iter X.env x = pure x := by intro _; rfl) :
    JS X cm (.Assign [.Name y py] (.ListComp elt [⟨tg, iter, ifs, 0⟩] scope pos) spos) (sSet i (fComp s T (own.map (·.2)) c f)) := by
  obtain ⟨t, p, q⟩ := hi.ex
  exact .of ⟨_, ps_setLc (g := tgT X.K T) (tt := tT cm c) (te := tE cm f) hc hN hy hyl hsw p ok hg ht he hs, ok_set (comp_ok q)⟩
end

/-! ### defs -/
abbrev Fn := List D → Option Rs
def spP (cm : CM) (Φ : Fn) (n : Nat) : Sp := fun vs H Q _ => ∃ lk sp G F ds r, WR lk sp G F H none ∧ Reps cm G ds vs ∧ Φ ds = some r ∧ ds.length = n ∧
  ∀ G' H' v, Le G G' → WR lk sp G' F H' none → ResR cm sp none G' F H' v r → Q v H'
def fCall (Φ : Fn) (fa : AF) : FE := fun e => (fa e).bind fun r => (Φ r.1).map fun q => (q, r.2)
/-- the spring stands aside -/
def asideF (F : Hp) (sp : Addr) : Option Spr → Hp
  | none => F
  | some s => upd F sp s.ho
theorem aside {lk : Addr → Option Obj} {sp : Addr} {G F H : Hp} {S : Option Spr} (w : WR lk sp G F H S) : WR lk sp G (asideF F sp S) H none := by
  cases S with
  | none => exact w
  | some s =>
    obtain ⟨h1, h2, h3⟩ := w.sp s rfl
    exact (w.noS).keep h1 h2 (fun s e => nomatch e) fun xs z => by cases z
theorem aside_le {lk : Addr → Option Obj} {sp : Addr} {G F H : Hp} {S : Option Spr} (w : WR lk sp G F H S) : Le F (asideF F sp S) := by
  cases S with
  | none => exact Le.rfl
  | some s => exact Le.upd (w.sp s rfl).2.2
theorem unaside {lk : Addr → Option Obj} {sp : Addr} {G G' F H H' : Hp} {S : Option Spr} (w0 : WR lk sp G F H S) (w : WR lk sp G' (asideF F sp S) H' none) : WR lk sp G' F H' S := by
  have l := w.lessF (aside_le w0)
  refine ⟨l.gh, l.fh, l.fg, l.lg, fun s e => ?_, l.ft⟩
  subst e
  exact ⟨w.fh sp _ upd_same, w.fg sp _ upd_same, (w0.sp s rfl).2.2⟩
theorem unasideR {cm : CM} {lk : Addr → Option Obj} {sp : Addr} {G G' F H H' : Hp} {S : Option Spr} {v : V} {r : Rs} (w0 : WR lk sp G F H S) (h : ResR cm sp none G' (asideF F sp S) H' v r) : ResR cm sp S G' F H' v r := by
  unfold ResR at h ⊢
  by_cases o : r.own = true
  · rw [if_pos o] at h ⊢
    obtain ⟨p, u, a, b, c, d, e, k⟩ := h
    refine ⟨p, u, a, b, c, d, (aside_le w0).none e, fun s q z => ?_, k.2⟩
    subst q
    subst z
    have e : upd F p s.ho p = none := e
    rw [upd_same] at e; cases e
  · rw [if_neg o] at h ⊢; exact h
theorem call_ok {cm : CM} {Φ : Fn} {n : Nat} {t : TA} {fa : AF} {E : XK} (q : KOk cm t fa) (hn : ∀ ds r, Φ ds = some r → ds.length = n) : EOk cm (tCall (spP cm Φ n) [] E t) (fCall Φ fa) := fun lk sp G F H σ e r S' x hf Q k => by
  obtain ⟨⟨ds, S1⟩, z1, hf⟩ := Option.bind_eq_some_iff.mp hf
  obtain ⟨r', z2, hf⟩ := Option.map_eq_some_iff.mp hf
  cases hf
  refine q lk sp G F H σ e ds S1 x z1 _ fun G1 H1 vs g1 w1 r1 => ?_
  rw [List.append_nil]
  exact ⟨lk, sp, G1, asideF F sp S1, ds, r, aside w1, r1, z2, hn ds r z2, fun G2 H2 v g2 w2 r2 => k G2 H2 v (g1.trans g2) (unaside w1 w2) (unasideR w1 r2)⟩
def runF (m : Nat) (f : FS) (ds : List D) : Option Rs := (f ⟨none, ds.map .frz ++ List.replicate (m - ds.length) .no, fun _ => none⟩).bind fun r => match r.1 with
  | .rt x => some x
  | .nx => some (fz .non)
  | _ => none
theorem cells_start {cm : CM} {sp : Addr} {G F : Hp} {N : List Str} : ∀ {ds : List D} {vs : List V}, Reps cm G ds vs → CellsR cm sp G F (L2.start N vs) (ds.map .frz ++ List.replicate (N.length - ds.length) .no) := fun {ds vs} r => by
  have hl := r.len
  intro i c q
  unfold L2.start
  by_cases hi : i < ds.length
  · rw [List.getElem?_append_left (by rw [List.length_map]; exact hi), List.getElem?_map, List.getElem?_eq_getElem hi] at q
    cases q
    obtain ⟨v, h1, h2⟩ := r.get (List.getElem?_eq_getElem hi)
    refine ⟨some v, ?_, v, rfl, h2⟩
    rw [List.getElem?_append_left (by rw [List.length_map]; omega), List.getElem?_map, h1]
    rfl
  · rw [List.getElem?_append_right (by rw [List.length_map]; omega), List.length_map, List.getElem?_replicate] at q
    split at q
    · rename_i hr
      cases q
      refine ⟨none, ?_, trivial⟩
      rw [List.getElem?_append_right (by rw [List.length_map]; omega), List.length_map, List.getElem?_replicate, if_pos (by omega)]
    · cases q
section
variable {P : Program} {w : World} {K : PySem.W.Frag} {mg : Str → Option Value} {base : Heap} {cm : CM}
/-- the context of a def's body: what a body's proof may use -/
structure Bd (P : Program) (w : World) (K : PySem.W.Frag) (mg : Str → Option Value) (base : Heap) (N : List Str) (sc : Scope) (k : Nat) (X : Cx) : Prop where
  ex : ∃ q f cdv A outer s H E, X = (cxOf CX0 P w K mg base N q sc f cdv A outer s H E).nox
  hr : Room k X.A
theorem def_ok {x qual : Str} {st : Stmt} {f : Addr} {fd : FuncData} {N ps : List Str} {k : Nat} {g : FS} (F : Fun K x qual st f fd) (S : FnScope N ps (defScope st))
    (hb : ∀ (q : Str) (f : Addr) (cdv : Value) (A : Around) (outer : List Env) (s : Shared) (H : Hp) (E : XK), Room k (A.deeper (envOfC q (defScope st) s.heap.objs.size f cdv)) → JB (cxOf CX0 P w K mg base N q (defScope st) f cdv A outer s H E).nox cm (defBody st) g) :
    FnOk P w K mg base CX0 (k + 1) f fd ps (spP cm (runF N.length g) ps.length) := by
  refine F.ok S (fun vs H Q E h => ?_) fun cdv A outer s H vs Q E hr h => ?_
  · obtain ⟨lk, sp, G, F, ds, r, _, h2, _, h4, _⟩ := h
    rw [h2.len, h4]
  · obtain ⟨t, p, q⟩ := (hb qual f cdv A outer s H E hr).ex
    refine ⟨t, p, ?_⟩
    obtain ⟨lk, sp, G, F, ds, r, h1, h2, h3, h4, h5⟩ := h
    unfold runF at h3
    obtain ⟨⟨fl, e'⟩, z1, h3⟩ := Option.bind_eq_some_iff.mp h3
    have noown : ∀ (i : Nat) c o p, (ds.map Cell.frz ++ List.replicate (N.length - ds.length) .no)[i]? = some c → Ft F o c p → False := fun i c o p z f => by
      by_cases hi : i < ds.length
      · rw [List.getElem?_append_left (by rw [List.length_map]; exact hi), List.getElem?_map, List.getElem?_eq_getElem hi] at z
        cases z; exact f
      · rw [List.getElem?_append_right (by rw [List.length_map]; omega), List.getElem?_replicate] at z
        split at z
        · cases z; exact f
        · cases z
    refine q lk sp G F H (L2.start N vs) _ fl e' ⟨F, Le.rfl, ⟨h1, cells_start h2, fun i j c c' o o' p _ z _ _ _ f _ => noown i c o p z f, (fun _ _ h => by cases h)⟩, fun i c o p z _ f => (noown i c o p z f).elim⟩ z1 _ ?_
    cases fl with
    | rt x => cases h3; exact fun G' H' v g' w' r' => h5 G' H' v g' w'.noS (by
        unfold ResR at r' ⊢
        by_cases o : r.own = true
        · rw [if_pos o] at r' ⊢
          obtain ⟨p, u, a, b, c, d, e, k⟩ := r'
          exact ⟨p, u, a, b, c, d, e, (fun s z => nomatch z), k.2⟩
        · rw [if_neg o] at r' ⊢; exact r')
    | nx => cases h3; exact fun G' H' σ' g' ⟨F', l', x', _⟩ => h5 G' H' .non g' ((x'.w.lessF l').noS) (ResR.fz rfl)
    | bk => cases h3
    | ct => cases h3
end
end Al


set_option Elab.async false
set_option linter.all false
set_option maxRecDepth 100000
/-! Operators, subscripts, builtins. -/
namespace Al
open PySem PySem.Spec PyProof.Rows L2

/-! ### reading off a world -/
section
variable {cm : CM} {lk : Addr → Option Obj} {sp : Addr} {G F H : Hp} {S : Option Spr} {v : V}
theorem RepT.lst {ds : List D} (w : WR lk sp G F H S) : RepT cm G F (.lst ds) v → ∃ p vs, v = .ref p ∧ H p = some (.lst vs) ∧ Reps cm G ds vs
  | .inl ⟨p, u, e, hp, vs, e2, r⟩ => by subst e2; exact ⟨p, vs, e, w.pl hp (fun z => z), r⟩
  | .inr ⟨p, u, e, hp, vs, e2, r⟩ => by subst e2; exact ⟨p, vs, e, w.fh p _ hp, r⟩
theorem RepT.tup {ds : List D} (w : WR lk sp G F H S) : RepT cm G F (.tup ds) v → ∃ p vs, v = .ref p ∧ H p = some (.tup vs) ∧ Reps cm G ds vs
  | .inl ⟨p, u, e, hp, vs, e2, r⟩ => by subst e2; exact ⟨p, vs, e, w.pl hp (fun z => z), r⟩
  | .inr ⟨p, u, e, hp, vs, e2, r⟩ => by subst e2; exact ⟨p, vs, e, w.fh p _ hp, r⟩
theorem RepT.dk {ds : List (Key × D)} (w : WR lk sp G F H S) : RepT cm G F (.dk ds) v → ∃ p vs, v = .ref p ∧ Rd H p (.dK vs) ∧ RepK cm G ds vs
  | .inl ⟨p, u, e, hp, vs, e2, r⟩ => by subst e2; exact ⟨p, vs, e, w.rd hp, r⟩
  | .inr ⟨p, u, e, hp, vs, e2, r⟩ => by subst e2; exact ⟨p, vs, e, .inl (w.fh p _ hp), r⟩
theorem RepT.dt {ds : List (List Key × D)} (w : WR lk sp G F H S) : RepT cm G F (.dt ds) v → ∃ p vs, v = .ref p ∧ Rd H p (.dT vs) ∧ RepD cm G ds vs
  | .inl ⟨p, u, e, hp, vs, e2, r⟩ => by subst e2; exact ⟨p, vs, e, w.rd hp, r⟩
  | .inr ⟨p, u, e, hp, vs, e2, r⟩ => by subst e2; exact ⟨p, vs, e, .inl (w.fh p _ hp), r⟩
theorem RepT.ins {c : Nat} {ds : List (Str × D)} (w : WR lk sp G F H S) : RepT cm G F (.ins c ds) v → ∃ p dx vs, v = .ref p ∧ H p = some (.ins (cm c) dx vs) ∧ RepF cm G ds vs
  | .inl ⟨p, u, e, hp, dx, vs, e2, r⟩ => by subst e2; exact ⟨p, dx, vs, e, w.pl hp (fun z => z), r⟩
  | .inr ⟨p, u, e, hp, dx, vs, e2, r⟩ => by subst e2; exact ⟨p, dx, vs, e, w.fh p _ hp, r⟩
theorem RepF.get {f : Str} {d : D} : ∀ {ds : List (Str × D)} {vs : List (Str × V)}, RepF cm G ds vs → ds.lookup f = some d → ∃ v, vs.lookup f = some v ∧ Rep cm G d v
  | [], _, _, h => by cases h
  | (k, e) :: ds, _, ⟨v, r, q, a, b⟩, h => by
    subst q
    rw [List.lookup_cons] at h ⊢
    cases hk : f == k with
    | true => rw [hk] at h; cases h; exact ⟨v, rfl, a⟩
    | false => rw [hk] at h; exact RepF.get b h
theorem RepF.miss {f : Str} : ∀ {ds : List (Str × D)} {vs : List (Str × V)}, RepF cm G ds vs → ds.lookup f = none → vs.lookup f = none
  | [], _, r, _ => by obtain rfl : _ = [] := r; rfl
  | (k, e) :: ds, _, ⟨v, r, q, a, b⟩, h => by
    subst q
    rw [List.lookup_cons] at h ⊢
    cases hk : f == k with
    | true => rw [hk] at h; cases h
    | false => rw [hk] at h; exact RepF.miss b h
/-- a dict's entry -/
def getK {κ : Type} [DecidableEq κ] (ds : List (κ × D)) (k : κ) : Option D := (ds.find? fun x => decide (x.1 = k)).map (·.2)
theorem RepK.get {k : Key} : ∀ {ds : List (Key × D)} {vs : List (Key × V)}, RepK cm G ds vs → (∀ d, getK ds k = some d → ∃ v, valV vs k = some v ∧ Rep cm G d v) ∧ (getK ds k = none → valV vs k = none)
  | [], _, r => by obtain rfl : _ = [] := r; exact ⟨(fun d h => by cases (show (none : Option D) = some d from h)), fun _ => rfl⟩
  | (j, e) :: ds, _, ⟨v, r, q, a, b⟩ => by
    subst q
    obtain ⟨h1, h2⟩ := RepK.get (k := k) b
    by_cases hk : j = k
    · subst hk
      have e1 : getK ((j, e) :: ds) j = some e := by simp [getK]
      refine ⟨fun d h => ?_, fun h => ?_⟩
      · rw [e1] at h; cases h; exact ⟨v, valV_pos rfl, a⟩
      · rw [e1] at h; cases h
    · have e1 : getK ((j, e) :: ds) k = getK ds k := by simp [getK, hk]
      rw [e1, valV_neg (p := (j, v)) hk]
      exact ⟨h1, h2⟩
theorem RepD.get {k : List Key} : ∀ {ds : List (List Key × D)} {vs : List (List Key × V)}, RepD cm G ds vs → (∀ d, getK ds k = some d → ∃ v, valV vs k = some v ∧ Rep cm G d v) ∧ (getK ds k = none → valV vs k = none)
  | [], _, r => by obtain rfl : _ = [] := r; exact ⟨(fun d h => by cases (show (none : Option D) = some d from h)), fun _ => rfl⟩
  | (j, e) :: ds, _, ⟨v, r, q, a, b⟩ => by
    subst q
    obtain ⟨h1, h2⟩ := RepD.get (k := k) b
    by_cases hk : j = k
    · subst hk
      have e1 : getK ((j, e) :: ds) j = some e := by simp [getK]
      refine ⟨fun d h => ?_, fun h => ?_⟩
      · rw [e1] at h; cases h; exact ⟨v, valV_pos rfl, a⟩
      · rw [e1] at h; cases h
    · have e1 : getK ((j, e) :: ds) k = getK ds k := by simp [getK, hk]
      rw [e1, valV_neg (p := (j, v)) hk]
      exact ⟨h1, h2⟩
/-- a datum as a key -/
def toKey : D → Option Key
  | .int i => some (.inl i)
  | .str s => some (.inr s)
  | _ => none
def toKeys : List D → Option (List Key)
  | [] => some []
  | d :: ds => (toKey d).bind fun k => (toKeys ds).map fun ks => k :: ks
theorem RepT.key {d : D} {k : Key} (h : RepT cm G F d v) (e : toKey d = some k) : v = kV k := by
  cases d with
  | int i => cases e; exact RepT.int h
  | str s => cases e; exact RepT.str h
  | _ => cases e
theorem Reps.keys : ∀ {ds : List D} {vs : List V} {ks : List Key}, Reps cm G ds vs → toKeys ds = some ks → vs = ks.map kV
  | [], _, _, r, e => by obtain rfl : _ = [] := r; cases e; rfl
  | d :: ds, _, ks, ⟨v, t, q, a, b⟩, e => by
    obtain ⟨k, e1, e⟩ := Option.bind_eq_some_iff.mp e
    obtain ⟨ks', e2, e⟩ := Option.map_eq_some_iff.mp e
    subst q
    subst e
    rw [Reps.keys b e2, RepT.key (F := G) (.inl a) e1]
    rfl
end

/-! ### operators -/
section
variable {X : Cx} {cm : CM}
theorem oo_val {r : R2} {g : D → D → Option D} (h : ∀ lk sp G F H S dx dy x y d, WR lk sp G F H S → RepT cm G F dx x → RepT cm G F dy y → g dx dy = some d → ∃ v, (∀ G, Rep cm G d v) ∧ ∀ Q : VK, Q v H → r x y H Q) : OOk cm r (fun x y => (g x y).map fz) :=
  fun lk sp G F H S dx dy x y res w rx ry hg Q q => by
    obtain ⟨d, z, rfl⟩ := Option.map_eq_some_iff.mp hg
    obtain ⟨v, h1, h2⟩ := h lk sp G F H S dx dy x y d w rx ry z
    exact h2 Q (q G H v Le.rfl w (ResR.fz (h1 G)))
def intI (f : Int → Int → Option D) : D → D → Option D
  | .int i, .int j => f i j
  | _, _ => none
theorem oo_int {C : Int → Int → Prop} {gv : Int → Int → V} {f : Int → Int → Option D} (h : ∀ i j d, f i j = some d → C i j ∧ ∀ G, Rep cm G d (gv i j)) : OOk cm (rI C gv) (fun x y => (intI f x y).map fz) := oo_val fun lk sp G F H S dx dy x y d w rx ry hg => by
  unfold intI at hg
  split at hg
  · rename_i i j
    obtain ⟨h1, h2⟩ := h i j d hg
    rw [rx.int, ry.int]
    exact ⟨gv i j, h2, fun Q q => ⟨i, j, rfl, rfl, h1, q⟩⟩
  · cases hg
theorem oo_int0 {gv : Int → Int → V} {f : Int → Int → D} (h : ∀ i j G, Rep cm G (f i j) (gv i j)) : OOk cm (rI0 gv) (fun x y => (intI (fun i j => some (f i j)) x y).map fz) := oo_val fun lk sp G F H S dx dy x y d w rx ry hg => by
  unfold intI at hg
  split at hg
  · rename_i i j
    cases hg
    rw [rx.int, ry.int]
    exact ⟨gv i j, h i j, fun Q q => ⟨i, j, rfl, rfl, q⟩⟩
  · cases hg
def strI (f : Str → Str → Option D) : D → D → Option D
  | .str i, .str j => f i j
  | _, _ => none
abbrev gInt (f : Int → Int → D) : D → D → Option Rs := fun x y => (intI (fun i j => some (f i j)) x y).map fz
abbrev gIntC (f : Int → Int → Option D) : D → D → Option Rs := fun x y => (intI f x y).map fz
abbrev gStr (f : Str → Str → Option D) : D → D → Option Rs := fun x y => (strI f x y).map fz
def iAdd : D → D → Option Rs := gInt fun i j => .int (i + j)
def iSub : D → D → Option Rs := gInt fun i j => .int (i - j)
def iMul : D → D → Option Rs := gIntC fun i j => if (-(2 ^ 64) < i ∧ i < 2 ^ 64) ∨ (-(2 ^ 64) < j ∧ j < 2 ^ 64) then some (.int (i * j)) else none
def iMulW : D → D → Option Rs := gIntC fun i j => if i.natAbs.log2 + j.natAbs.log2 < 1000000 then some (.int (i * j)) else none
def iMod : D → D → Option Rs := gIntC fun i j => if 0 < j then some (.int (i % j)) else none
def iDiv : D → D → Option Rs := gIntC fun i j => if 0 < j ∧ j.natAbs.log2 < 9000 then some (.int (i / j)) else none
def iPow : D → D → Option Rs := gIntC fun i j => if 0 ≤ j ∧ j ≤ 1000000 ∧ i.natAbs < 2 ^ 64 then some (.int (i ^ j.toNat)) else none
def iShl : D → D → Option Rs := gIntC fun i j => if 0 ≤ j ∧ j ≤ 1000000 ∧ i.natAbs < 2 ^ 64 then some (.int (i * 2 ^ j.toNat)) else none
theorem jo_iAdd : JO X cm (binaryOp .Add) iAdd := ⟨_, op_add, oo_int0 fun _ _ _ => rfl⟩
theorem jo_iSub : JO X cm (binaryOp .Sub) iSub := ⟨_, op_sub, oo_int0 fun _ _ _ => rfl⟩
theorem jo_iMul : JO X cm (binaryOp .Mult) iMul := ⟨_, op_mul, oo_int fun i j d h => by split at h <;> cases h; exact ⟨by assumption, fun _ => rfl⟩⟩
theorem jo_iMulW : JO X cm (binaryOp .Mult) iMulW := ⟨_, op_mulW, oo_int fun i j d h => by split at h <;> cases h; exact ⟨by assumption, fun _ => rfl⟩⟩
theorem jo_iMod : JO X cm (binaryOp .Mod) iMod := ⟨_, op_mod, oo_int fun i j d h => by split at h <;> cases h; exact ⟨by assumption, fun _ => rfl⟩⟩
theorem jo_iDiv : JO X cm (binaryOp .FloorDiv) iDiv := ⟨_, op_fdivW, oo_int fun i j d h => by split at h <;> cases h; exact ⟨by assumption, fun _ => rfl⟩⟩
theorem jo_iPow : JO X cm (binaryOp .Pow) iPow := ⟨_, op_pow, oo_int fun i j d h => by split at h <;> cases h; exact ⟨by assumption, fun _ => rfl⟩⟩
theorem jo_iShl : JO X cm (binaryOp .LShift) iShl := ⟨_, op_shl, oo_int fun i j d h => by split at h <;> cases h; exact ⟨by assumption, fun _ => rfl⟩⟩
def iLt : D → D → Option Rs := gInt fun i j => .bl (decide (i < j))
def iLe : D → D → Option Rs := gInt fun i j => .bl (decide (i ≤ j))
def iGt : D → D → Option Rs := gInt fun i j => .bl (decide (j < i))
def iGe : D → D → Option Rs := gInt fun i j => .bl (decide (j ≤ i))
theorem jo_iLt : JO X cm (compareOp .Lt) iLt := ⟨_, op_lt, oo_int0 fun _ _ _ => rfl⟩
theorem jo_iLe : JO X cm (compareOp .LtE) iLe := ⟨_, op_le, oo_int0 fun _ _ _ => rfl⟩
theorem jo_iGt : JO X cm (compareOp .Gt) iGt := ⟨_, op_gt, oo_int0 fun _ _ _ => rfl⟩
theorem jo_iGe : JO X cm (compareOp .GtE) iGe := ⟨_, op_ge, oo_int0 fun _ _ _ => rfl⟩
theorem oo_str {r : R2} {f : Str → Str → Option D} (h : ∀ i j d H, f i j = some d → ∃ v, (∀ G, Rep cm G d v) ∧ ∀ Q : VK, Q v H → r (.str i) (.str j) H Q) : OOk cm r (gStr f) := oo_val fun lk sp G F H S dx dy x y d w rx ry hg => by
  unfold strI at hg
  split at hg
  · rename_i i j
    rw [rx.str, ry.str]
    exact h i j d H hg
  · cases hg
def sAdd : D → D → Option Rs := gStr fun i j => if i.length + j.length ≤ 16777216 then some (.str (i ++ j)) else none
theorem jo_sAdd : JO X cm (binaryOp .Add) sAdd := ⟨_, op_add_str, oo_str fun i j d H h => by
  split at h <;> cases h
  rename_i hz
  exact ⟨.str (i ++ j), fun _ => rfl, fun Q q => ⟨i, j, rfl, rfl, hz, q⟩⟩⟩
def strLt (i j : Str) : Bool := decide (i.cps.toList < j.cps.toList)
def sLt : D → D → Option Rs := gStr fun i j => some (.bl (strLt i j))
def sLe : D → D → Option Rs := gStr fun i j => some (.bl (!strLt j i))
def sGt : D → D → Option Rs := gStr fun i j => some (.bl (strLt j i))
theorem jo_sLt : JO X cm (compareOp .Lt) sLt := ⟨_, op_lt_str, oo_str fun i j d H h => by cases h; exact ⟨_, fun _ => rfl, fun Q q => ⟨i, j, rfl, rfl, q⟩⟩⟩
theorem jo_sLe : JO X cm (compareOp .LtE) sLe := ⟨_, op_le_str, oo_str fun i j d H h => by cases h; exact ⟨_, fun _ => rfl, fun Q q => ⟨i, j, rfl, rfl, q⟩⟩⟩
theorem jo_sGt : JO X cm (compareOp .Gt) sGt := ⟨_, op_gt_str, oo_str fun i j d H h => by cases h; exact ⟨_, fun _ => rfl, fun Q q => ⟨i, j, rfl, rfl, q⟩⟩⟩
/-- one sign in a text -/
def sIn (neg : Bool) : D → D → Option Rs := gStr fun i j => match i.cps.toList with
  | [c] => some (.bl (if neg then !decide (c ∈ j.cps.toList) else decide (c ∈ j.cps.toList)))
  | _ => none
theorem str_one {i : Str} {c : Nat} (h : i.cps.toList = [c]) : i = ⟨#[c]⟩ := by
  obtain ⟨a⟩ := i
  congr
  exact Array.ext' (by simpa using h)
theorem jo_sIn : JO X cm (compareOp .In) (sIn false) := ⟨_, op_in_sign, oo_str fun i j d H h => by
  split at h
  · rename_i c hc
    cases h
    rw [str_one hc]
    exact ⟨_, fun _ => rfl, fun Q q => ⟨c, j, rfl, rfl, q⟩⟩
  · cases h⟩
theorem jo_sNotIn : JO X cm (compareOp .NotIn) (sIn true) := ⟨_, op_notIn_sign, oo_str fun i j d H h => by
  split at h
  · rename_i c hc
    cases h
    rw [str_one hc]
    exact ⟨_, fun _ => rfl, fun Q q => ⟨c, j, rfl, rfl, q⟩⟩
  · cases h⟩
/-- == of plain things -/
def scalE : D → D → Option Bool
  | .non, .non => some true
  | .non, .int _ => some false
  | .int _, .non => some false
  | .non, .bl _ => some false
  | .bl _, .non => some false
  | .non, .str _ => some false
  | .str _, .non => some false
  | .int i, .int j => some (decide (i = j))
  | .bl i, .bl j => some (decide (i = j))
  | .str i, .str j => some (decide (i = j))
  | .int _, .str _ => some false
  | .str _, .int _ => some false
  | .bl _, .str _ => some false
  | .str _, .bl _ => some false
  | _, _ => none
theorem scalE_ok {G F : Hp} {dx dy : D} {x y : V} {b : Bool} (rx : RepT cm G F dx x) (ry : RepT cm G F dy y) (h : scalE dx dy = some b) : scal x y = true ∧ b = decide (x = y) := by
  unfold scalE at h
  split at h <;> cases h <;> (first | rw [rx.non] | rw [rx.int] | rw [rx.str] | rw [rx.bl]) <;> (first | rw [ry.non] | rw [ry.int] | rw [ry.str] | rw [ry.bl]) <;> refine ⟨rfl, ?_⟩ <;> simp
def gEq : D → D → Option Rs := fun x y => ((scalE x y).map .bl).map fz
def gNe : D → D → Option Rs := fun x y => ((scalE x y).map fun b => .bl (!b)).map fz
theorem jo_eq : JO X cm (compareOp .Eq) gEq := ⟨_, op_eq, oo_val fun lk sp G F H S dx dy x y d w rx ry hg => by
  obtain ⟨b, z, rfl⟩ := Option.map_eq_some_iff.mp hg
  obtain ⟨h1, h2⟩ := scalE_ok rx ry z
  exact ⟨.bl b, fun _ => rfl, fun Q q => ⟨h1, by rw [← h2]; exact q⟩⟩⟩
theorem jo_ne : JO X cm (compareOp .NotEq) gNe := ⟨_, op_ne, oo_val fun lk sp G F H S dx dy x y d w rx ry hg => by
  obtain ⟨b, z, rfl⟩ := Option.map_eq_some_iff.mp hg
  obtain ⟨h1, h2⟩ := scalE_ok rx ry z
  exact ⟨.bl (!b), fun _ => rfl, fun Q q => ⟨h1, by rw [← h2]; exact q⟩⟩⟩
def D.isNon : D → Bool
  | .non => true
  | _ => false
theorem RepT.isNon {G F : Hp} : ∀ {d : D} {v : V}, RepT cm G F d v → decide (v = .non) = d.isNon
  | .non, v, r => by rw [r.non]; rfl
  | .bl _, v, r => by rw [r.bl]; rfl
  | .int _, v, r => by rw [r.int]; rfl
  | .str _, v, r => by rw [r.str]; rfl
  | .lst _, v, .inl ⟨p, u, e, _⟩ => by rw [e]; rfl
  | .tup _, v, .inl ⟨p, u, e, _⟩ => by rw [e]; rfl
  | .dk _, v, .inl ⟨p, u, e, _⟩ => by rw [e]; rfl
  | .dt _, v, .inl ⟨p, u, e, _⟩ => by rw [e]; rfl
  | .ins _ _, v, .inl ⟨p, u, e, _⟩ => by rw [e]; rfl
  | .lst _, v, .inr ⟨p, u, e, _⟩ => by rw [e]; rfl
  | .tup _, v, .inr ⟨p, u, e, _⟩ => by rw [e]; rfl
  | .dk _, v, .inr ⟨p, u, e, _⟩ => by rw [e]; rfl
  | .dt _, v, .inr ⟨p, u, e, _⟩ => by rw [e]; rfl
  | .ins _ _, v, .inr ⟨p, u, e, _⟩ => by rw [e]; rfl
def gIsN : D → D → Option Rs := fun x y => (match y with | .non => some (D.bl x.isNon) | _ => none : Option D).map fz
def gNotN : D → D → Option Rs := fun x y => (match y with | .non => some (D.bl (!x.isNon)) | _ => none : Option D).map fz
theorem jo_isN : JO X cm (compareOp .Is) gIsN := ⟨_, op_isN, oo_val fun lk sp G F H S dx dy x y d w rx ry hg => by
  split at hg
  · cases hg
    exact ⟨.bl dx.isNon, fun _ => rfl, fun Q q => ⟨ry.non, by rw [rx.isNon]; exact q⟩⟩
  · cases hg⟩
theorem jo_notN : JO X cm (compareOp .IsNot) gNotN := ⟨_, op_notN, oo_val fun lk sp G F H S dx dy x y d w rx ry hg => by
  split at hg
  · cases hg
    exact ⟨.bl (!dx.isNon), fun _ => rfl, fun Q q => ⟨ry.non, by rw [rx.isNon]; exact q⟩⟩
  · cases hg⟩
/-- xs + ys -/
def lAdd : D → D → Option Rs
  | .lst xs, .lst ys => if xs.length + ys.length ≤ 16777216 then some (nw (.lst (xs ++ ys))) else none
  | _, _ => none
theorem jo_lAdd : JO X cm (binaryOp .Add) lAdd := ⟨_, op_cat, fun lk sp G F H S dx dy x y res w rx ry hg Q q => by
  unfold lAdd at hg
  split at hg
  · rename_i xs ys
    split at hg
    · rename_i hz
      cases hg
      obtain ⟨a, us, rfl, ha, ra⟩ := rx.lst w
      obtain ⟨b, ws, rfl, hb, rb⟩ := ry.lst w
      exact ⟨a, b, us, ws, rfl, rfl, ha, hb, by rw [ra.len, rb.len]; exact hz, fun p hp => q G _ _ Le.rfl (w.new hp) (ResR.nw upd_same ⟨_, rfl, ra.app rb⟩ (w.gn hp) (w.fn hp) (w.spn hp))⟩
    · cases hg
  · cases hg⟩
/-- x in xs, plain things -/
def flatD : D → Bool
  | .non => true
  | .bl _ => true
  | .int _ => true
  | .str _ => true
  | _ => false
def eqD : D → D → Bool
  | .non, .non => true
  | .bl a, .bl b => a == b
  | .bl a, .int b => (if a then 1 else 0) == b
  | .int a, .bl b => a == (if b then 1 else 0)
  | .int a, .int b => a == b
  | .str a, .str b => a == b
  | _, _ => false
def inD (x : D) (xs : List D) : Bool := xs.any fun y => eqD y x
def unV : D → V
  | .non => .non
  | .bl b => .bl b
  | .int i => .int i
  | .str s => .str s
  | _ => .non
theorem flat_un {G F : Hp} : ∀ {d : D} {v : V}, RepT cm G F d v → flatD d = true → v = unV d ∧ flatV v = true
  | .non, v, r, _ => by rw [r.non]; exact ⟨rfl, rfl⟩
  | .bl _, v, r, _ => by rw [r.bl]; exact ⟨rfl, rfl⟩
  | .int _, v, r, _ => by rw [r.int]; exact ⟨rfl, rfl⟩
  | .str _, v, r, _ => by rw [r.str]; exact ⟨rfl, rfl⟩
theorem eqD_un : ∀ {a b : D}, flatD a = true → flatD b = true → eqV (unV a) (unV b) = eqD a b := fun {a b} ha hb => by
  cases a with
  | non => cases b <;> first | rfl | cases hb
  | bl x => cases b <;> first | rfl | cases hb
  | int x => cases b <;> first | rfl | cases hb
  | str x => cases b <;> first | rfl | cases hb
  | _ => cases ha
theorem flats_un {G : Hp} : ∀ {ds : List D} {vs : List V}, Reps cm G ds vs → ds.all flatD = true → vs = ds.map unV ∧ vs.all flatV = true
  | [], _, r, _ => by obtain rfl : _ = [] := r; exact ⟨rfl, rfl⟩
  | d :: ds, _, ⟨v, t, q, a, b⟩, h => by
    subst q
    rw [List.all_cons, Bool.and_eq_true] at h
    obtain ⟨h1, h2⟩ := flat_un (F := G) (.inl a) h.1
    obtain ⟨h3, h4⟩ := flats_un b h.2
    exact ⟨by rw [h1, h3]; rfl, by rw [List.all_cons, h2, h4]; rfl⟩
theorem inD_un {x : D} (hx : flatD x = true) : ∀ {ds : List D}, ds.all flatD = true → inV (unV x) (ds.map unV) = inD x ds
  | [], _ => rfl
  | d :: ds, h => by
    rw [List.all_cons, Bool.and_eq_true] at h
    have ih := inD_un hx h.2
    unfold inV inD at ih ⊢
    rw [List.map_cons, List.any_cons, List.any_cons, eqD_un h.1 hx, ih]
def lIn (neg : Bool) : D → D → Option Rs
  | x, .lst ys => if flatD x = true ∧ ys.all flatD = true then some (fz (.bl (if neg then !inD x ys else inD x ys))) else none
  | x, .tup ys => if flatD x = true ∧ ys.all flatD = true then some (fz (.bl (if neg then !inD x ys else inD x ys))) else none
  | _, _ => none
theorem oo_lIn {K : PySem.W.Frag} (neg : Bool) : OOk cm (rIn K neg) (lIn neg) := fun lk sp G F H S dx dy x y res w rx ry hg Q q => by
  unfold lIn at hg
  split at hg
  · rename_i ys
    split at hg
    · rename_i hc
      cases hg
      obtain ⟨a, us, rfl, ha, ra⟩ := ry.lst w
      obtain ⟨h1, h2⟩ := flat_un rx hc.1
      obtain ⟨h3, h4⟩ := flats_un ra hc.2
      refine ⟨a, us, rfl, .inl (SqL.of ha), h2, h4, ?_⟩
      rw [h1, h3, inD_un hc.1 hc.2]
      exact q G H _ Le.rfl w (ResR.fz rfl)
    · cases hg
  · rename_i ys
    split at hg
    · rename_i hc
      cases hg
      obtain ⟨a, us, rfl, ha, ra⟩ := ry.tup w
      obtain ⟨h1, h2⟩ := flat_un rx hc.1
      obtain ⟨h3, h4⟩ := flats_un ra hc.2
      refine ⟨a, us, rfl, .inr (SqT.of ha), h2, h4, ?_⟩
      rw [h1, h3, inD_un hc.1 hc.2]
      exact q G H _ Le.rfl w (ResR.fz rfl)
    · cases hg
  · cases hg
theorem jo_lIn : JO X cm (compareOp .In) (lIn false) := ⟨_, op_in_seq, oo_lIn false⟩
theorem jo_lNotIn : JO X cm (compareOp .NotIn) (lIn true) := ⟨_, op_notIn_seq, oo_lIn true⟩

/-! ### other rules for one form -/
theorem PE_or {a : Expr} {t t' : TE} (h : PE X a t) (h' : PE X a t') : PE X a (fun σ H Q => t σ H Q ∨ t' σ H Q) := ⟨fun pins s σ H Q I k => k.elim (h.run pins s σ H Q I) (h'.run pins s σ H Q I)⟩
def fOr (f g : FE) : FE := fun e => (f e).or (g e)
theorem j_or {a : Expr} {f g : FE} (h : JE X cm a f) (h' : JE X cm a g) : JE X cm a (fOr f g) := by
  obtain ⟨t, p, q⟩ := h.ex
  obtain ⟨t', p', q'⟩ := h'.ex
  refine .of ⟨_, PE_or p p', fun lk sp G F H σ e r S' x hf Q k => ?_⟩
  unfold fOr at hf
  cases z : f e with
  | some y => rw [z] at hf; exact .inl (q lk sp G F H σ e r S' x (by rw [z]; exact hf) Q k)
  | none => rw [z] at hf; exact .inr (q' lk sp G F H σ e r S' x hf Q k)
/-- a if t else b -/
def fIf (c : TF) (f g : FE) : FE := fun e => (c e).bind fun r => if r.1 = true then f (e.st r.2) else g (e.st r.2)
theorem j_ifExp {a b c : Expr} {f g : FE} {h : TF} {pos : Pos} (hc : JT X cm c h) (ha : JE X cm a f) (hb : JE X cm b g) : JE X cm (.IfExp c a b pos) (fIf h f g) := by
  obtain ⟨t, p, q⟩ := hc.ex
  obtain ⟨t1, p1, q1⟩ := ha.ex
  obtain ⟨t2, p2, q2⟩ := hb.ex
  refine .of ⟨_, pe_ifExp p p1 p2, fun lk sp G F H σ e r S' x hf Q k => ?_⟩
  obtain ⟨⟨b, S1⟩, z1, hf⟩ := Option.bind_eq_some_iff.mp hf
  refine q lk sp G F H σ e b S1 x z1 _ fun G1 H1 g1 w1 => ?_
  cases b with
  | true => exact q1 lk sp G1 F H1 σ _ r S' (x.next g1 Le.rfl w1) hf Q fun G2 H2 v g2 w2 r2 => k G2 H2 v (g1.trans g2) w2 r2
  | false => exact q2 lk sp G1 F H1 σ _ r S' (x.next g1 Le.rfl w1) hf Q fun G2 H2 v g2 w2 r2 => k G2 H2 v (g1.trans g2) w2 r2
/-- and, or, not as values of truth -/
def fTst (f : TF) : FE := fun e => (f e).map fun r => (fz (.bl r.1), r.2)
def fAn (f : FE) (g : FE) : FE := fun e => (f e).bind fun r => match r.1.d with
  | .bl true => g (e.st r.2)
  | .bl false => some (fz (.bl false), r.2)
  | _ => none
def fOrV (f : FE) (g : FE) : FE := fun e => (f e).bind fun r => match r.1.d with
  | .bl true => some (fz (.bl true), r.2)
  | .bl false => g (e.st r.2)
  | _ => none
def fNot (f : FE) : FE := fun e => (f e).bind fun r => match r.1.d with
  | .bl b => some (fz (.bl (!b)), r.2)
  | _ => none
theorem j_one {a : Expr} {op} {f : FE} {pos : Pos} (h : JE X cm a f) : JE X cm (.BoolOp op [a] pos) f := let ⟨t, p, q⟩ := h.ex; .of ⟨t, pe_one p, q⟩
theorem j_and {a b : Expr} {rest : List Expr} {f g : FE} {pos : Pos} (h1 : JE X cm a f) (h2 : JE X cm (.BoolOp .And (b :: rest) pos) g) : JE X cm (.BoolOp .And (a :: b :: rest) pos) (fAn f g) := by
  obtain ⟨t1, p1, q1⟩ := h1.ex
  obtain ⟨t2, p2, q2⟩ := h2.ex
  refine .of ⟨_, pe_and p1 p2, fun lk sp G F H σ e r S' x hf Q k => ?_⟩
  obtain ⟨⟨r1, S1⟩, z1, hf⟩ := Option.bind_eq_some_iff.mp hf
  refine q1 lk sp G F H σ e r1 S1 x z1 _ fun G1 H1 v g1 w1 rr => ?_
  cases hd : r1.d with
  | bl b =>
    simp only [hd] at hf
    refine ⟨b, rr.bl hd, ?_⟩
    cases b with
    | true => exact q2 lk sp G1 F H1 σ _ r S' (x.next g1 Le.rfl w1) hf Q fun G2 H2 v g2 w2 r2 => k G2 H2 v (g1.trans g2) w2 r2
    | false => cases hf; exact k G1 H1 _ g1 w1 (ResR.fz rfl)
  | _ => simp only [hd] at hf; cases hf
theorem j_orV {a b : Expr} {rest : List Expr} {f g : FE} {pos : Pos} (h1 : JE X cm a f) (h2 : JE X cm (.BoolOp .Or (b :: rest) pos) g) : JE X cm (.BoolOp .Or (a :: b :: rest) pos) (fOrV f g) := by
  obtain ⟨t1, p1, q1⟩ := h1.ex
  obtain ⟨t2, p2, q2⟩ := h2.ex
  refine .of ⟨_, pe_or p1 p2, fun lk sp G F H σ e r S' x hf Q k => ?_⟩
  obtain ⟨⟨r1, S1⟩, z1, hf⟩ := Option.bind_eq_some_iff.mp hf
  refine q1 lk sp G F H σ e r1 S1 x z1 _ fun G1 H1 v g1 w1 rr => ?_
  cases hd : r1.d with
  | bl b =>
    simp only [hd] at hf
    refine ⟨b, rr.bl hd, ?_⟩
    cases b with
    | false => exact q2 lk sp G1 F H1 σ _ r S' (x.next g1 Le.rfl w1) hf Q fun G2 H2 v g2 w2 r2 => k G2 H2 v (g1.trans g2) w2 r2
    | true => cases hf; exact k G1 H1 _ g1 w1 (ResR.fz rfl)
  | _ => simp only [hd] at hf; cases hf
theorem j_not {a : Expr} {f : FE} {pos : Pos} (h : JE X cm a f) : JE X cm (.UnaryOp .Not a pos) (fNot f) := by
  obtain ⟨t1, p1, q1⟩ := h.ex
  refine .of ⟨_, pe_not p1, fun lk sp G F H σ e r S' x hf Q k => ?_⟩
  obtain ⟨⟨r1, S1⟩, z1, hf⟩ := Option.bind_eq_some_iff.mp hf
  refine q1 lk sp G F H σ e r1 S1 x z1 _ fun G1 H1 v g1 w1 rr => ?_
  cases hd : r1.d with
  | bl b =>
    simp only [hd] at hf
    cases hf
    exact ⟨b, rr.bl hd, k G1 H1 _ g1 w1 (ResR.fz rfl)⟩
  | _ => simp only [hd] at hf; cases hf
/-- -n -/
def fNeg (f : FE) : FE := fun e => (f e).bind fun r => match r.1.d with
  | .int i => some (fz (.int (-i)), r.2)
  | _ => none
theorem ResR.int {sp : Addr} {S : Option Spr} {G F H : Hp} {v : V} {r : Rs} {x : Int} (h : ResR cm sp S G F H v r) (e : r.d = .int x) : v = .int x := by
  unfold ResR at h
  by_cases o : r.own = true
  · rw [if_pos o] at h
    obtain ⟨p, u, _, _, q, _⟩ := h
    rw [e] at q; exact q.elim
  · rw [if_neg o, e] at h; exact h
theorem ResR.str {sp : Addr} {S : Option Spr} {G F H : Hp} {v : V} {r : Rs} {x : Str} (h : ResR cm sp S G F H v r) (e : r.d = .str x) : v = .str x := by
  unfold ResR at h
  by_cases o : r.own = true
  · rw [if_pos o] at h
    obtain ⟨p, u, _, _, q, _⟩ := h
    rw [e] at q; exact q.elim
  · rw [if_neg o, e] at h; exact h
theorem j_neg {a : Expr} {f : FE} {pos : Pos} (h : JE X cm a f) : JE X cm (.UnaryOp .USub a pos) (fNeg f) := by
  obtain ⟨t1, p1, q1⟩ := h.ex
  refine .of ⟨_, pe_un un_neg p1, fun lk sp G F H σ e r S' x hf Q k => ?_⟩
  obtain ⟨⟨r1, S1⟩, z1, hf⟩ := Option.bind_eq_some_iff.mp hf
  refine q1 lk sp G F H σ e r1 S1 x z1 _ fun G1 H1 v g1 w1 rr => ?_
  cases hd : r1.d with
  | int b =>
    simp only [hd] at hf
    cases hf
    exact ⟨b, rr.int hd, k G1 H1 _ g1 w1 (ResR.fz rfl)⟩
  | _ => simp only [hd] at hf; cases hf
/-- a < b < c -/
def fChain (g g' : D → D → Option Rs) (a b c : PF) : FE := fun e => (a e).bind fun x => (b (e.st x.2)).bind fun y => (g x.1 y.1).bind fun r => match r.d with
  | .bl true => (c (e.st y.2)).bind fun z => (g' y.1 z.1).map fun r => (r, z.2)
  | .bl false => some (fz (.bl false), y.2)
  | _ => none
theorem ResR.lessF {sp : Addr} {S : Option Spr} {G F F' H : Hp} {v : V} {r : Rs} (l : Le F F') (h : ResR cm sp S G F' H v r) : ResR cm sp S G F H v r := by
  unfold ResR at h ⊢
  by_cases o : r.own = true
  · rw [if_pos o] at h ⊢
    obtain ⟨p, u, a, b, c, d, e, k⟩ := h
    exact ⟨p, u, a, b, c, d, l.none e, k⟩
  · rw [if_neg o] at h ⊢; exact h
theorem chain_ok {r r' : R2} {g g' : D → D → Option Rs} {ta tb tc : TE} {pa pb pc : PF} (o2 : OOk cm r g) (o2' : OOk cm r' g') (a2 : POk cm ta pa) (b2 : POk cm tb pb) (c2 : POk cm tc pc) : EOk cm (tChain r r' ta tb tc) (fChain g g' pa pb pc) := fun lk sp G F H σ e r0 S' x hf Q k => by
  obtain ⟨⟨d1, S1⟩, z1, hf⟩ := Option.bind_eq_some_iff.mp hf
  obtain ⟨⟨d2, S2⟩, z2, hf⟩ := Option.bind_eq_some_iff.mp hf
  obtain ⟨r1, z3, hf⟩ := Option.bind_eq_some_iff.mp hf
  refine a2 lk sp G F H σ e d1 S1 x z1 _ fun G1 F1 H1 v1 g1 f1 w1 q1 => ?_
  have x1 := x.next g1 f1 w1
  refine b2 lk sp G1 F1 H1 σ _ d2 S2 x1 z2 _ fun G2 F2 H2 v2 g2 f2 w2 q2 => ?_
  refine o2 lk sp G2 F2 H2 S2 d1 d2 v1 v2 r1 w2 (q1.mono g2 f2) q2 z3 _ fun G3 H3 v g3 w3 q3 => ?_
  cases hd : r1.d with
  | bl b =>
    simp only [hd] at hf
    refine ⟨b, q3.bl hd, ?_⟩
    cases b with
    | false =>
      cases hf
      exact k G3 H3 _ ((g1.trans g2).trans g3) (w3.lessF (f1.trans f2)) (ResR.fz rfl)
    | true =>
      obtain ⟨⟨d3, S3⟩, z4, hf⟩ := Option.bind_eq_some_iff.mp hf
      obtain ⟨r2, z5, hf⟩ := Option.map_eq_some_iff.mp hf
      cases hf
      have x3 : ER cm lk sp G3 F2 H3 σ (e.st S2) := x1.next (g2.trans g3) f2 w3
      refine c2 lk sp G3 F2 H3 σ _ d3 S3 x3 z4 _ fun G4 F4 H4 v4 g4 f4 w4 q4 => ?_
      refine o2' lk sp G4 F4 H4 S3 d2 d3 v2 v4 r0 w4 (q2.mono (g3.trans g4) f4) q4 z5 Q fun G5 H5 v5 g5 w5 q5 => ?_
      exact k G5 H5 v5 ((((g1.trans g2).trans g3).trans g4).trans g5) (w5.lessF ((f1.trans f2).trans f4)) (q5.lessF ((f1.trans f2).trans f4))
  | _ => simp only [hd] at hf; cases hf
theorem j_chain {a b c : Expr} {op op' : CmpOp} {g g' : D → D → Option Rs} {pa pb pc : PF} {pos : Pos} (ho : JO X cm (compareOp op) g) (ho' : JO X cm (compareOp op') g') (ha : JP X cm a pa) (hb : JP X cm b pb) (hc : JP X cm c pc) (hm : lastMarks [op, op'] [b, c] = false := by with_unfolding_all rfl) :
    JE X cm (.Compare a [op, op'] [b, c] pos) (fChain g g' pa pb pc) := by
  obtain ⟨r, o1, o2⟩ := ho
  obtain ⟨r', o1', o2'⟩ := ho'
  obtain ⟨ta, a1, a2⟩ := ha.ex
  obtain ⟨tb, b1, b2⟩ := hb.ex
  obtain ⟨tc, c1, c2⟩ := hc.ex
  exact .of ⟨_, pe_chain o1 o1' a1 b1 c1 hm, chain_ok o2 o2' a2 b2 c2⟩
theorem jt_chain {a b c : Expr} {op op' : CmpOp} {g g' : D → D → Option Rs} {pa pb pc : PF} {pos : Pos} (ho : JO X cm (compareOp op) g) (ho' : JO X cm (compareOp op') g') (ha : JP X cm a pa) (hb : JP X cm b pb) (hc : JP X cm c pc) (hm : lastMarks [op, op'] [b, c] = false := by with_unfolding_all rfl) :
    JT X cm (.Compare a [op, op'] [b, c] pos) (tEb (fChain g g' pa pb pc)) := by
  obtain ⟨r, o1, o2⟩ := ho
  obtain ⟨r', o1', o2'⟩ := ho'
  obtain ⟨ta, a1, a2⟩ := ha.ex
  obtain ⟨tb, b1, b2⟩ := hb.ex
  obtain ⟨tc, c1, c2⟩ := hc.ex
  exact .of ⟨_, pt_chain o1 o1' a1 b1 c1 hm, (chain_ok o2 o2' a2 b2 c2).t⟩
end
end Al


set_option Elab.async false
set_option linter.all false
set_option maxRecDepth 100000
/-! Subscripts, fields, builtins. -/
namespace Al
open PySem PySem.Spec PyProof.Rows L2
section
variable {X : Cx} {cm : CM} {a b : Expr} {pos : Pos}
/-! ### a[i] -/
def JX (X : Cx) (cm : CM) (g : D → D → Option Rs) : Prop := ∃ r, IxR X r ∧ OOk cm r g
theorem JX.or {g g' : D → D → Option Rs} (h : JX X cm g) (h' : JX X cm g') : JX X cm (orG g g') := by
  obtain ⟨r, a, b⟩ := h
  obtain ⟨r', a', b'⟩ := h'
  refine ⟨_, IxR.or a a', fun lk sp G F H S dx dy x y res w rx ry hg Q q => ?_⟩
  unfold orG at hg
  cases z : g dx dy with
  | some t => rw [z] at hg; exact .inl (b lk sp G F H S dx dy x y res w rx ry (by rw [z]; exact hg) Q q)
  | none => rw [z] at hg; exact .inr (b' lk sp G F H S dx dy x y res w rx ry hg Q q)
def xLst : D → D → Option Rs
  | .lst ds, .int i => (atI ds i).map fz
  | _, _ => none
def xTup : D → D → Option Rs
  | .tup ds, .int i => (atI ds i).map fz
  | _, _ => none
def xStr : D → D → Option Rs
  | .str z, .int i => if z.length ≤ 16777216 then (atI z.cps.toList i).map fun c => fz (.str ⟨#[c]⟩) else none
  | _, _ => none
theorem Reps.atI {G : Hp} {ds : List D} {vs : List V} {i : Int} {d : D} (r : Reps cm G ds vs) (h : L2.atI ds i = some d) : ∃ v, L2.atI vs i = some v ∧ Rep cm G d v := by
  unfold L2.atI at h ⊢
  rw [r.len]
  obtain ⟨j, h1, h2⟩ := Option.bind_eq_some_iff.mp h
  obtain ⟨v, h3, h4⟩ := r.get h2
  exact ⟨v, by rw [h1]; exact h3, h4⟩
theorem jx_lst : JX X cm xLst := ⟨_, ix_list, fun lk sp G F H S dx dy x y res w rx ry hg Q q => by
  unfold xLst at hg
  split at hg
  · rename_i ds i
    obtain ⟨d, h1, rfl⟩ := Option.map_eq_some_iff.mp hg
    obtain ⟨p, vs, rfl, hp, rr⟩ := rx.lst w
    obtain ⟨v, h2, h3⟩ := rr.atI h1
    exact ⟨p, vs, i, v, rfl, ry.int, SqL.of hp, h2, q G H v Le.rfl w (ResR.fz h3)⟩
  · cases hg⟩
theorem jx_tup : JX X cm xTup := ⟨_, ix_tup, fun lk sp G F H S dx dy x y res w rx ry hg Q q => by
  unfold xTup at hg
  split at hg
  · rename_i ds i
    obtain ⟨d, h1, rfl⟩ := Option.map_eq_some_iff.mp hg
    obtain ⟨p, vs, rfl, hp, rr⟩ := rx.tup w
    obtain ⟨v, h2, h3⟩ := rr.atI h1
    exact ⟨p, vs, i, v, rfl, ry.int, SqT.of hp, h2, q G H v Le.rfl w (ResR.fz h3)⟩
  · cases hg⟩
theorem jx_str : JX X cm xStr := ⟨_, ix_str, fun lk sp G F H S dx dy x y res w rx ry hg Q q => by
  unfold xStr at hg
  split at hg
  · rename_i z i
    split at hg
    · rename_i hz
      obtain ⟨c, h1, rfl⟩ := Option.map_eq_some_iff.mp hg
      exact ⟨z, i, c, rx.str, ry.int, hz, h1, q G H _ Le.rfl w (ResR.fz rfl)⟩
    · cases hg
  · cases hg⟩
theorem j_ix {g : D → D → Option Rs} {pa pb : PF} (ho : JX X cm g) (ha : JP X cm a pa) (hb : JP X cm b pb) (hs : PlainIx b := by exact fun _ _ => rfl) : JE X cm (.Subscript a b pos) (fBin g pa pb) := by
  obtain ⟨r, o1, o2⟩ := ho
  obtain ⟨ta, a1, a2⟩ := ha.ex
  obtain ⟨tb, b1, b2⟩ := hb.ex
  exact .of ⟨_, pe_ix o1 a1 b1 hs, bin_ok a2 b2 o2⟩
/-- what a dict holds -/
def lookD : D → D → Option (Option D)
  | .dk ds, k => (toKey k).map fun k => getK ds k
  | .dt ds, .tup ks => (toKeys ks).map fun k => getK ds k
  | _, _ => none
theorem lookD_ok {lk : Addr → Option Obj} {sp : Addr} {G F H : Hp} {S : Option Spr} {dx dy : D} {x y : V} {o : Option D} (w : WR lk sp G F H S) (rx : RepT cm G F dx x) (ry : RepT cm G F dy y) (h : lookD dx dy = some o) :
    ∃ a o', x = .ref a ∧ DGet H a y o' ∧ (o = none → o' = none) ∧ (∀ d, o = some d → ∃ v, o' = some v ∧ Rep cm G d v) := by
  unfold lookD at h
  split at h
  · rename_i ds k
    obtain ⟨k', h1, rfl⟩ := Option.map_eq_some_iff.mp h
    obtain ⟨p, vs, rfl, hp, rr⟩ := rx.dk w
    obtain ⟨g1, g2⟩ := rr.get (k := k')
    exact ⟨p, _, rfl, .inl ⟨vs, k', hp, ry.key h1, rfl⟩, g2, g1⟩
  · rename_i ds ks
    obtain ⟨k', h1, rfl⟩ := Option.map_eq_some_iff.mp h
    obtain ⟨p, vs, rfl, hp, rr⟩ := rx.dt w
    obtain ⟨b, us, rfl, hb, rs⟩ := ry.tup w
    obtain ⟨g1, g2⟩ := rr.get (k := k')
    rw [rs.keys h1] at hb
    exact ⟨p, _, rfl, .inr ⟨vs, k', b, hp, rfl, hb, rfl⟩, g2, g1⟩
  · cases h
def fDget (pa pb : PF) : FE := fun e => (pa e).bind fun x => (pb (e.st x.2)).bind fun y => match lookD x.1 y.1 with
  | some (some d) => some (fz d, y.2)
  | _ => none
theorem j_dget {pa pb : PF} (hu : X.A.units + 1 < cLine) (ha : JP X cm a pa) (hb : JP X cm b pb) (hs : NoSl b := by exact fun _ _ => rfl) : JE X cm (.Subscript a b pos) (fDget pa pb) := by
  obtain ⟨ta, a1, a2⟩ := ha.ex
  obtain ⟨tb, b1, b2⟩ := hb.ex
  refine .of ⟨_, pe_dget hu a1 b1 hs, fun lk sp G F H σ e r S' x hf Q k => ?_⟩
  obtain ⟨⟨d1, S1⟩, z1, hf⟩ := Option.bind_eq_some_iff.mp hf
  obtain ⟨⟨d2, S2⟩, z2, hf⟩ := Option.bind_eq_some_iff.mp hf
  refine a2 lk sp G F H σ e d1 S1 x z1 _ fun G1 F1 H1 v1 g1 f1 w1 r1 => ?_
  refine b2 lk sp G1 F1 H1 σ _ d2 S2 (x.next g1 f1 w1) z2 _ fun G2 F2 H2 v2 g2 f2 w2 r2 => ?_
  cases hl : lookD d1 d2 with
  | none => simp only [hl] at hf; cases hf
  | some o =>
    cases o with
    | none => simp only [hl] at hf; cases hf
    | some d =>
      simp only [hl] at hf
      cases hf
      obtain ⟨p, o', e1, e2, _, e4⟩ := lookD_ok w2 (r1.mono g2 f2) r2 hl
      obtain ⟨v, rfl, rv⟩ := e4 d rfl
      exact ⟨p, v, e1, e2, k G2 H2 v (g1.trans g2) (w2.lessF (f1.trans f2)) (ResR.fz rv)⟩
/-- k in d, k not in d -/
def fDin (neg : Bool) (pa pb : PF) : FE := fun e => (pa e).bind fun x => (pb (e.st x.2)).bind fun y => (lookD y.1 x.1).map fun o => (fz (.bl (if neg then !o.isSome else o.isSome)), y.2)
theorem some_eq {G : Hp} {o : Option D} {o' : Option V} (h1 : o = none → o' = none) (h2 : ∀ d, o = some d → ∃ v, o' = some v ∧ Rep cm G d v) : o'.isSome = o.isSome := by
  cases o with
  | none => rw [h1 rfl]; rfl
  | some d =>
    obtain ⟨v, e, _⟩ := h2 d rfl
    rw [e]; rfl
theorem din_ok {ta tb : TE} {pa pb : PF} (a2 : POk cm ta pa) (b2 : POk cm tb pb) : EOk cm (tDIn ta tb) (fDin false pa pb) := fun lk sp G F H σ e r S' x hf Q k => by
  obtain ⟨⟨d1, S1⟩, z1, hf⟩ := Option.bind_eq_some_iff.mp hf
  obtain ⟨⟨d2, S2⟩, z2, hf⟩ := Option.bind_eq_some_iff.mp hf
  obtain ⟨o, hl, hf⟩ := Option.map_eq_some_iff.mp hf
  cases hf
  refine a2 lk sp G F H σ e d1 S1 x z1 _ fun G1 F1 H1 v1 g1 f1 w1 r1 => ?_
  refine b2 lk sp G1 F1 H1 σ _ d2 S2 (x.next g1 f1 w1) z2 _ fun G2 F2 H2 v2 g2 f2 w2 r2 => ?_
  obtain ⟨p, o', e1, e2, e3, e4⟩ := lookD_ok w2 r2 (r1.mono g2 f2) hl
  refine ⟨p, o', e1, e2, ?_⟩
  rw [some_eq e3 e4]
  exact k G2 H2 _ (g1.trans g2) (w2.lessF (f1.trans f2)) (ResR.fz rfl)
theorem dnin_ok {ta tb : TE} {pa pb : PF} (a2 : POk cm ta pa) (b2 : POk cm tb pb) : EOk cm (tDNotIn ta tb) (fDin true pa pb) := fun lk sp G F H σ e r S' x hf Q k => by
  obtain ⟨⟨d1, S1⟩, z1, hf⟩ := Option.bind_eq_some_iff.mp hf
  obtain ⟨⟨d2, S2⟩, z2, hf⟩ := Option.bind_eq_some_iff.mp hf
  obtain ⟨o, hl, hf⟩ := Option.map_eq_some_iff.mp hf
  cases hf
  refine a2 lk sp G F H σ e d1 S1 x z1 _ fun G1 F1 H1 v1 g1 f1 w1 r1 => ?_
  refine b2 lk sp G1 F1 H1 σ _ d2 S2 (x.next g1 f1 w1) z2 _ fun G2 F2 H2 v2 g2 f2 w2 r2 => ?_
  obtain ⟨p, o', e1, e2, e3, e4⟩ := lookD_ok w2 r2 (r1.mono g2 f2) hl
  refine ⟨p, o', e1, e2, ?_⟩
  rw [some_eq e3 e4]
  exact k G2 H2 _ (g1.trans g2) (w2.lessF (f1.trans f2)) (ResR.fz rfl)
theorem j_din {pa pb : PF} (hu : X.A.units + 1 < cLine) (ha : JP X cm a pa) (hb : JP X cm b pb) (hm : behindInMarks .In b = false := by rfl) : JE X cm (.Compare a [.In] [b] pos) (fDin false pa pb) := by
  obtain ⟨ta, a1, a2⟩ := ha.ex
  obtain ⟨tb, b1, b2⟩ := hb.ex
  exact .of ⟨_, pe_cmp (pc_din hu a1 b1) hm, din_ok a2 b2⟩
theorem j_dnin {pa pb : PF} (hu : X.A.units + 1 < cLine) (ha : JP X cm a pa) (hb : JP X cm b pb) (hm : behindInMarks .NotIn b = false := by rfl) : JE X cm (.Compare a [.NotIn] [b] pos) (fDin true pa pb) := by
  obtain ⟨ta, a1, a2⟩ := ha.ex
  obtain ⟨tb, b1, b2⟩ := hb.ex
  exact .of ⟨_, pe_cmp (pc_dnotin hu a1 b1) hm, dnin_ok a2 b2⟩
theorem jt_din {pa pb : PF} (hu : X.A.units + 1 < cLine) (ha : JP X cm a pa) (hb : JP X cm b pb) (hm : behindInMarks .In b = false := by rfl) : JT X cm (.Compare a [.In] [b] pos) (tEb (fDin false pa pb)) := by
  obtain ⟨ta, a1, a2⟩ := ha.ex
  obtain ⟨tb, b1, b2⟩ := hb.ex
  exact .of ⟨_, pt_cmp (pc_din hu a1 b1) hm, (din_ok a2 b2).t⟩
theorem jt_dnin {pa pb : PF} (hu : X.A.units + 1 < cLine) (ha : JP X cm a pa) (hb : JP X cm b pb) (hm : behindInMarks .NotIn b = false := by rfl) : JT X cm (.Compare a [.NotIn] [b] pos) (tEb (fDin true pa pb)) := by
  obtain ⟨ta, a1, a2⟩ := ha.ex
  obtain ⟨tb, b1, b2⟩ := hb.ex
  exact .of ⟨_, pt_cmp (pc_dnotin hu a1 b1) hm, (dnin_ok a2 b2).t⟩
def tOrT (f g : TF) : TF := fun e => (f e).or (g e)
theorem PT_or {a : Expr} {t t' : TT} (h : PT X a t) (h' : PT X a t') : PT X a (fun σ H Q => t σ H Q ∨ t' σ H Q) := ⟨fun pins s σ H Q I k => k.elim (h.run pins s σ H Q I) (h'.run pins s σ H Q I)⟩
theorem jt_orT {a : Expr} {f g : TF} (h : JT X cm a f) (h' : JT X cm a g) : JT X cm a (tOrT f g) := by
  obtain ⟨t, p, q⟩ := h.ex
  obtain ⟨t', p', q'⟩ := h'.ex
  refine .of ⟨_, PT_or p p', fun lk sp G F H σ e r S' x hf Q k => ?_⟩
  unfold tOrT at hf
  cases z : f e with
  | some y => rw [z] at hf; exact .inl (q lk sp G F H σ e r S' x (by rw [z]; exact hf) Q k)
  | none => rw [z] at hf; exact .inr (q' lk sp G F H σ e r S' x hf Q k)

/-! ### truth of any thing -/
def truD : D → Option Bool
  | .non => some false
  | .bl b => some b
  | .int i => some (i != 0)
  | .str s => if s.length ≤ 16777216 then some ((s.length : Int) != 0) else none
  | .lst ds => some (!ds.isEmpty)
  | .tup ds => some (!ds.isEmpty)
  | _ => none
def tTru' (f : PF) : TF := fun e => (f e).bind fun r => (truD r.1).map fun b => (b, r.2)
theorem empty_eq {α β : Type} {xs : List α} {ys : List β} (h : xs.length = ys.length) : xs.isEmpty = ys.isEmpty := by
  cases xs <;> cases ys <;> first | rfl | cases h
theorem truD_ok {K : PySem.W.Frag} {lk : Addr → Option Obj} {sp : Addr} {G F H : Hp} {S : Option Spr} {d : D} {v : V} {b : Bool} (w : WR lk sp G F H S) (r : RepT cm G F d v) (h : truD d = some b) : TruV K v H b := by
  cases d with
  | non => cases h; rw [r.non]; rfl
  | bl b => cases h; rw [r.bl]; rfl
  | int i => cases h; rw [r.int]; rfl
  | str s =>
    have h : (if s.length ≤ 16777216 then some ((s.length : Int) != 0) else none) = some b := h
    split at h
    · rename_i hz
      cases h
      rw [r.str]
      exact ⟨hz, rfl⟩
    · cases h
  | lst ds =>
    cases h
    obtain ⟨p, vs, rfl, hp, rr⟩ := r.lst w
    exact .inl ⟨vs, SqL.of hp, by rw [empty_eq rr.len]⟩
  | tup ds =>
    cases h
    obtain ⟨p, vs, rfl, hp, rr⟩ := r.tup w
    exact .inr (.inl ⟨vs, SqT.of hp, by rw [empty_eq rr.len]⟩)
  | _ => cases h
theorem jt_tru {f : PF} (h : JP X cm a f) (he : ∀ whole, isTrue a X.env whole = (do let v ← whole; standAt a.pos; holding [v] (truthy v)) := by intro _; rfl) : JT X cm a (tTru' f) := by
  obtain ⟨t, p, q⟩ := h.ex
  refine .of ⟨_, pt_truth p he, fun lk sp G F H σ e b S' x hf Q k => ?_⟩
  obtain ⟨⟨d, S1⟩, z1, hf⟩ := Option.bind_eq_some_iff.mp hf
  obtain ⟨c, z2, hf⟩ := Option.map_eq_some_iff.mp hf
  cases hf
  exact q lk sp G F H σ e d S1 x z1 _ fun G1 F1 H1 v g1 f1 w1 r1 => ⟨b, truD_ok w1 r1 z2, k G1 H1 g1 (w1.lessF f1)⟩

/-! ### a[lo:hi] -/
def JSl (X : Cx) (cm : CM) (g : D → Option Int → Option Int → Option Rs) : Prop := ∃ r, L2.SlR X r ∧ ∀ lk sp G F H S d v lo hi res, WR lk sp G F H S → RepT cm G F d v → g d lo hi = some res → ∀ Q : VK,
  (∀ G' H' v, Le G G' → WR lk sp G' F H' S → ResR cm sp S G' F H' v res → Q v H') → r v lo hi H Q
def OF := En → Option (Option Int × Option Spr)
def JPO (X : Cx) (cm : CM) (a : Option Expr) (f : OF) : Prop := ∃ t, PO X a t ∧ ∀ lk sp G F H σ e o S', ER cm lk sp G F H σ e → f e = some (o, S') → ∀ Q : Option Int → Hp → Prop, (∀ G' H', Le G G' → WR lk sp G' F H' S' → Q o H') → t σ H Q
def oNo : OF := fun e => some (none, e.S)
def oSo (f : FE) : OF := fun e => (f e).bind fun r => match r.1.d with
  | .int i => some (some i, r.2)
  | _ => none
theorem jo_no : JPO X cm none oNo := ⟨_, po_none, fun lk sp G F H σ e o S' x hf Q k => by cases hf; exact k G H Le.rfl x.w⟩
theorem jo_so {f : FE} (h : JE X cm a f) : JPO X cm (some a) (oSo f) := by
  obtain ⟨t, p, q⟩ := h.ex
  refine ⟨_, po_some p, fun lk sp G F H σ e o S' x hf Q k => ?_⟩
  obtain ⟨⟨r, S1⟩, z1, hf⟩ := Option.bind_eq_some_iff.mp hf
  refine q lk sp G F H σ e r S1 x z1 _ fun G1 H1 v g1 w1 rr => ?_
  cases hd : r.d with
  | int i => simp only [hd] at hf; cases hf; exact ⟨i, rr.int hd, k G1 H1 g1 w1⟩
  | _ => simp only [hd] at hf; cases hf
def cutD {α : Type} (xs : List α) (lo hi : Option Int) : List α := (xs.drop (HT.sIx xs.length 0 lo)).take (HT.sIx xs.length xs.length hi - HT.sIx xs.length 0 lo)
theorem Reps.drop {G : Hp} : ∀ (n : Nat) {ds : List D} {vs : List V}, Reps cm G ds vs → Reps cm G (ds.drop n) (vs.drop n)
  | 0, _, _, r => r
  | n + 1, [], _, r => by obtain rfl : _ = [] := r; exact rfl
  | n + 1, _ :: ds, _, ⟨v, t, e, _, b⟩ => by subst e; exact Reps.drop n b
theorem Reps.take {G : Hp} : ∀ (n : Nat) {ds : List D} {vs : List V}, Reps cm G ds vs → Reps cm G (ds.take n) (vs.take n)
  | 0, _, _, r => rfl
  | n + 1, [], _, r => by obtain rfl : _ = [] := r; exact rfl
  | n + 1, _ :: ds, _, ⟨v, t, e, a, b⟩ => by subst e; exact ⟨v, _, rfl, a, Reps.take n b⟩
theorem Reps.cut {G : Hp} {ds : List D} {vs : List V} (lo hi : Option Int) (r : Reps cm G ds vs) : Reps cm G (cutD ds lo hi) (cutV vs lo hi) := by
  unfold cutD cutV
  rw [r.len]
  exact (r.drop _).take _
def slLst : D → Option Int → Option Int → Option Rs
  | .lst ds, lo, hi => some (nw (.lst (cutD ds lo hi)))
  | _, _, _ => none
def slStr : D → Option Int → Option Int → Option Rs
  | .str z, lo, hi => if z.length ≤ 16777216 then some (fz (.str (cutS z lo hi))) else none
  | _, _, _ => none
theorem jsl_lst : JSl X cm slLst := ⟨_, sl_list, fun lk sp G F H S d v lo hi res w r hg Q q => by
  unfold slLst at hg
  split at hg
  · cases hg
    obtain ⟨p, vs, rfl, hp, rr⟩ := r.lst w
    exact ⟨p, vs, rfl, SqL.of hp, fun b hb => q G _ _ Le.rfl (w.new hb) (ResR.nw upd_same ⟨_, rfl, rr.cut _ _⟩ (w.gn hb) (w.fn hb) (w.spn hb))⟩
  · cases hg⟩
theorem jsl_str : JSl X cm slStr := ⟨_, sl_str, fun lk sp G F H S d v lo hi res w r hg Q q => by
  unfold slStr at hg
  split at hg
  · split at hg
    · rename_i hz
      cases hg
      rw [r.str]
      exact ⟨_, rfl, hz, q G H _ Le.rfl w (ResR.fz rfl)⟩
    · cases hg
  · cases hg⟩
def fSl (g : D → Option Int → Option Int → Option Rs) (f : PF) (l h : OF) : FE := fun e => (f e).bind fun r => (l (e.st r.2)).bind fun x => (h (e.st x.2)).bind fun y => (g r.1 x.1 y.1).map fun q => (q, y.2)
theorem j_sl {lo hi : Option Expr} {p2 : Pos} {g : D → Option Int → Option Int → Option Rs} {f : PF} {l h : OF} (hr : JSl X cm g) (he : JP X cm a f) (hl : JPO X cm lo l) (hh : JPO X cm hi h) : JE X cm (.Subscript a (.Slice lo hi none p2) pos) (fSl g f l h) := by
  obtain ⟨r, r1, r2⟩ := hr
  obtain ⟨t, p, q⟩ := he.ex
  obtain ⟨tl, l1, l2⟩ := hl
  obtain ⟨th, h1, h2⟩ := hh
  refine .of ⟨_, pe_slice r1 p l1 h1, fun lk sp G F H σ e res S' x hf Q k => ?_⟩
  obtain ⟨⟨d, S1⟩, z1, hf⟩ := Option.bind_eq_some_iff.mp hf
  obtain ⟨⟨o1, S2⟩, z2, hf⟩ := Option.bind_eq_some_iff.mp hf
  obtain ⟨⟨o2, S3⟩, z3, hf⟩ := Option.bind_eq_some_iff.mp hf
  obtain ⟨y, z4, hf⟩ := Option.map_eq_some_iff.mp hf
  cases hf
  refine q lk sp G F H σ e d S1 x z1 _ fun G1 F1 H1 v g1 f1 w1 rr => ?_
  have x1 := x.next g1 f1 w1
  refine l2 lk sp G1 F1 H1 σ _ o1 S2 x1 z2 _ fun G2 H2 g2 w2 => ?_
  have x2 : ER cm lk sp G2 F1 H2 σ (e.st S2) := x1.next g2 Le.rfl w2
  refine h2 lk sp G2 F1 H2 σ _ o2 S3 x2 z3 _ fun G3 H3 g3 w3 => ?_
  exact r2 lk sp G3 F1 H3 S3 d v o1 o2 res w3 (rr.mono (g2.trans g3) Le.rfl) z4 Q fun G4 H4 v4 g4 w4 r4 => k G4 H4 v4 (((g1.trans g2).trans g3).trans g4) (w4.lessF f1) (r4.lessF f1)

/-! ### builtins called -/
abbrev Fb := List D → Option Rs
def COk (cm : CM) (r : List V → Hp → VK → Prop) (g : Fb) : Prop := ∀ lk sp G F H S ds vs res, WR lk sp G F H S → RepTs cm G F ds vs → g ds = some res → ∀ Q : VK,
  (∀ G' H' v, Le G G' → WR lk sp G' F H' S → ResR cm sp S G' F H' v res → Q v H') → r vs H Q
def JC (X : Cx) (cm : CM) (f : Value) (g : Fb) : Prop := ∃ r, CallR X f r ∧ COk cm r g
def orF (g g' : Fb) : Fb := fun ds => (g ds).or (g' ds)
theorem CallR_or {f : Value} {r r' : List V → Hp → VK → Prop} (h : CallR X f r) (h' : CallR X f r') : CallR X f (fun vs H Q => r vs H Q ∨ r' vs H Q) := fun pins s σ H xs us Q I rv k => k.elim (h pins s σ H xs us Q I rv) (h' pins s σ H xs us Q I rv)
theorem JC.or {f : Value} {g g' : Fb} (h : JC X cm f g) (h' : JC X cm f g') : JC X cm f (orF g g') := by
  obtain ⟨r, a, b⟩ := h
  obtain ⟨r', a', b'⟩ := h'
  refine ⟨_, CallR_or a a', fun lk sp G F H S ds vs res w rr hg Q q => ?_⟩
  unfold orF at hg
  cases z : g ds with
  | some t => rw [z] at hg; exact .inl (b lk sp G F H S ds vs res w rr (by rw [z]; exact hg) Q q)
  | none => rw [z] at hg; exact .inr (b' lk sp G F H S ds vs res w rr hg Q q)
def fApp (g : Fb) (fa : AF) : FE := fun e => (fa e).bind fun r => (g r.1).map fun q => (q, r.2)
theorem app_okC {t : TA} {r : List V → Hp → VK → Prop} {g : Fb} {fa : AF} (q : AOk cm t fa) (c : COk cm r g) : EOk cm (tCB r t) (fApp g fa) := fun lk sp G F H σ e res S' x hf Q k => by
  obtain ⟨⟨ds, S1⟩, z1, hf⟩ := Option.bind_eq_some_iff.mp hf
  obtain ⟨r', z2, hf⟩ := Option.map_eq_some_iff.mp hf
  cases hf
  refine q lk sp G F H σ e ds S1 x z1 _ fun G1 F1 H1 vs g1 f1 w1 r1 => ?_
  exact c lk sp G1 F1 H1 S1 ds vs res w1 r1 z2 Q fun G2 H2 v g2 w2 r2 => k G2 H2 v (g1.trans g2) (w2.lessF f1) (r2.lessF f1)
theorem j_callB {id : String} {x : Str} {e : Expr} {es : List Expr} {p : Pos} {g : Fb} {fa : AF} (hc : JC X cm (.builtin id) g) (hm : X.mg x = none) (ha : JA X cm (e :: es) fa) (hg : Gl X x := by rfl) (hv : bootBuiltins x = some (.builtin id) := by decide +kernel) (hn : x ≠ "__name__" := by decide) (hdb : (x == ("__debug__" : Str)) = false := by decide)
    (he : starEach (e :: es) X.env = (false, eval e X.env) :: starEach es X.env := by rfl) (hpl : (backTo pos (starEach es X.env)).any (·.1) = false := by rfl) : JE X cm (.Call (.Name x p) (e :: es) [] pos) (fApp g fa) := by
  obtain ⟨r, c1, c2⟩ := hc
  obtain ⟨t, p1, q⟩ := ha.ex
  exact .of ⟨_, pe_callB c1 hg hm hv p1 hn hdb he hpl, app_okC q c2⟩
theorem j_callTy {T : String} {x : Str} {e : Expr} {es : List Expr} {p : Pos} {g : Fb} {fa : AF} (hc : JC X cm (.type T) g) (hm : X.mg x = none) (ha : JA X cm (e :: es) fa) (hg : Gl X x := by rfl) (hv : bootBuiltins x = some (.type T) := by decide +kernel) (hn : x ≠ "__name__" := by decide) (hdb : (x == ("__debug__" : Str)) = false := by decide)
    (he : starEach (e :: es) X.env = (false, eval e X.env) :: starEach es X.env := by rfl) (hpl : (backTo pos (starEach es X.env)).any (·.1) = false := by rfl) : JE X cm (.Call (.Name x p) (e :: es) [] pos) (fApp g fa) := by
  obtain ⟨r, c1, c2⟩ := hc
  obtain ⟨t, p1, q⟩ := ha.ex
  exact .of ⟨_, pe_callTy c1 hg hm hv p1 hn hdb he hpl, app_okC q c2⟩
/-- len -/
def bLenS : Fb
  | [.lst ds] => some (fz (.int ds.length))
  | [.tup ds] => some (fz (.int ds.length))
  | _ => none
def bLenT : Fb
  | [.str s] => if s.length ≤ 16777216 then some (fz (.int s.length)) else none
  | _ => none
def bLenD : Fb
  | [.dk ds] => some (fz (.int ds.length))
  | _ => none
def bLenDT : Fb
  | [.dt ds] => some (fz (.int ds.length))
  | _ => none
theorem RepTs.one {G F : Hp} {d : D} {vs : List V} : RepTs cm G F [d] vs → ∃ v, vs = [v] ∧ RepT cm G F d v := fun ⟨v, r, e, a, b⟩ => by
  obtain rfl : r = [] := b
  exact ⟨v, e, a⟩
theorem jc_lenS : JC X cm (.builtin "len") bLenS := ⟨_, call_len_seq, fun lk sp G F H S ds vs res w rr hg Q q => by
  unfold bLenS at hg
  split at hg
  · cases hg
    obtain ⟨v, rfl, r⟩ := rr.one
    obtain ⟨p, us, rfl, hp, r2⟩ := r.lst w
    exact ⟨p, us, rfl, .inl (SqL.of hp), by rw [r2.len]; exact q G H _ Le.rfl w (ResR.fz rfl)⟩
  · cases hg
    obtain ⟨v, rfl, r⟩ := rr.one
    obtain ⟨p, us, rfl, hp, r2⟩ := r.tup w
    exact ⟨p, us, rfl, .inr (SqT.of hp), by rw [r2.len]; exact q G H _ Le.rfl w (ResR.fz rfl)⟩
  · cases hg⟩
theorem jc_lenT : JC X cm (.builtin "len") bLenT := ⟨_, call_len, fun lk sp G F H S ds vs res w rr hg Q q => by
  unfold bLenT at hg
  split at hg
  · split at hg
    · rename_i s hz
      cases hg
      obtain ⟨v, rfl, r⟩ := rr.one
      rw [r.str]
      exact ⟨_, s.length, rfl, ⟨hz, rfl⟩, q G H _ Le.rfl w (ResR.fz rfl)⟩
    · cases hg
  · cases hg⟩
def rLenDR : List V → Hp → VK → Prop := fun xs H Q => ∃ a kvs, xs = [V.ref a] ∧ Rd H a (.dK kvs) ∧ Q (.int kvs.length) H
theorem call_lenDR : CallR X (.builtin "len") rLenDR := by
  intro pins s σ H xs us Q I r h
  obtain ⟨a, kvs, rfl, ha, q⟩ := h
  obtain ⟨u, rfl, ru⟩ := vals1 r
  cases ru
  exact d_len I ha fun t s' I' => ⟨.int _, H, I', ⟨t, rfl⟩, q⟩
theorem jc_lenD : JC X cm (.builtin "len") bLenD := ⟨_, call_lenDR, fun lk sp G F H S ds vs res w rr hg Q q => by
  unfold bLenD at hg
  split at hg
  · cases hg
    obtain ⟨v, rfl, r⟩ := rr.one
    obtain ⟨p, us, rfl, hp, r2⟩ := r.dk w
    exact ⟨p, us, rfl, hp, by rw [r2.len]; exact q G H _ Le.rfl w (ResR.fz rfl)⟩
  · cases hg⟩
/-- list(x), tuple(x) -/
def bLstS : Fb
  | [.lst ds] => some (nw (.lst ds))
  | [.tup ds] => some (nw (.lst ds))
  | _ => none
def bTupS : Fb
  | [.lst ds] => some (fz (.tup ds))
  | [.tup ds] => some (fz (.tup ds))
  | _ => none
theorem jc_lstS : JC X cm (.type "list") bLstS := ⟨_, call_list_of, fun lk sp G F H S ds vs res w rr hg Q q => by
  unfold bLstS at hg
  split at hg
  · cases hg
    obtain ⟨v, rfl, r⟩ := rr.one
    obtain ⟨p, us, rfl, hp, r2⟩ := r.lst w
    exact ⟨p, us, rfl, .inl (SqL.of hp), fun b hb => q G _ _ Le.rfl (w.new hb) (ResR.nw upd_same ⟨us, rfl, r2⟩ (w.gn hb) (w.fn hb) (w.spn hb))⟩
  · cases hg
    obtain ⟨v, rfl, r⟩ := rr.one
    obtain ⟨p, us, rfl, hp, r2⟩ := r.tup w
    exact ⟨p, us, rfl, .inr (SqT.of hp), fun b hb => q G _ _ Le.rfl (w.new hb) (ResR.nw upd_same ⟨us, rfl, r2⟩ (w.gn hb) (w.fn hb) (w.spn hb))⟩
  · cases hg⟩
def DK.keys (ds : List (Key × D)) : List D := ds.map fun p => match p.1 with | .inl i => .int i | .inr s => .str s
def bLstD : Fb
  | [.dk ds] => some (nw (.lst (DK.keys ds)))
  | _ => none
theorem RepK.keysR {G : Hp} : ∀ {ds : List (Key × D)} {vs : List (Key × V)}, RepK cm G ds vs → Reps cm G (DK.keys ds) (vs.map fun kv => kV kv.1)
  | [], _, r => by obtain rfl : _ = [] := r; exact rfl
  | (.inl i, e) :: ds, _, ⟨v, r, q, a, b⟩ => by subst q; exact ⟨_, _, rfl, rfl, RepK.keysR b⟩
  | (.inr i, e) :: ds, _, ⟨v, r, q, a, b⟩ => by subst q; exact ⟨_, _, rfl, rfl, RepK.keysR b⟩
theorem jc_lstD (hc : X.calm = true) : JC X cm (.type "list") bLstD := ⟨_, call_listD hc, fun lk sp G F H S ds vs res w rr hg Q q => by
  unfold bLstD at hg
  split at hg
  · cases hg
    obtain ⟨v, rfl, r⟩ := rr.one
    obtain ⟨p, us, rfl, hp, r2⟩ := r.dk w
    exact ⟨p, us, rfl, hp, fun b hb => q G _ _ Le.rfl (w.new hb) (ResR.nw upd_same ⟨_, rfl, r2.keysR⟩ (w.gn hb) (w.fn hb) (w.spn hb))⟩
  · cases hg⟩
/-- sum, all, any -/
def intsD : List D → Option (List Int)
  | [] => some []
  | .int i :: ds => (intsD ds).map fun r => i :: r
  | _ => none
def blsD : List D → Option (List Bool)
  | [] => some []
  | .bl i :: ds => (blsD ds).map fun r => i :: r
  | _ => none
theorem Reps.ints {G : Hp} : ∀ {ds : List D} {vs : List V} {ns : List Int}, Reps cm G ds vs → intsD ds = some ns → vs = ns.map V.int
  | [], _, _, r, h => by obtain rfl : _ = [] := r; cases h; rfl
  | .int i :: ds, _, _, ⟨v, t, q, a, b⟩, h => by
    obtain ⟨ns, h1, rfl⟩ := Option.map_eq_some_iff.mp h
    subst q
    rw [Reps.ints b h1, (show v = .int i from a)]
    rfl
theorem Reps.bls {G : Hp} : ∀ {ds : List D} {vs : List V} {ns : List Bool}, Reps cm G ds vs → blsD ds = some ns → vs = ns.map V.bl
  | [], _, _, r, h => by obtain rfl : _ = [] := r; cases h; rfl
  | .bl i :: ds, _, _, ⟨v, t, q, a, b⟩, h => by
    obtain ⟨ns, h1, rfl⟩ := Option.map_eq_some_iff.mp h
    subst q
    rw [Reps.bls b h1, (show v = .bl i from a)]
    rfl
def bSum : Fb
  | [.lst ds] => (intsD ds).map fun ns => fz (.int ns.sum)
  | _ => none
def bAll : Fb
  | [.lst ds] => (blsD ds).map fun ns => fz (.bl (ns.all id))
  | _ => none
def bAny : Fb
  | [.lst ds] => (blsD ds).map fun ns => fz (.bl (ns.any id))
  | _ => none
theorem jc_sum (hc : X.calm = true) : JC X cm (.builtin "sum") bSum := ⟨_, cr_sum hc, fun lk sp G F H S ds vs res w rr hg Q q => by
  unfold bSum at hg
  split at hg
  · obtain ⟨ns, h1, rfl⟩ := Option.map_eq_some_iff.mp hg
    obtain ⟨v, rfl, r⟩ := rr.one
    obtain ⟨p, us, rfl, hp, r2⟩ := r.lst w
    exact ⟨p, ns, rfl, SqL.of (by rw [hp, r2.ints h1]), q G H _ Le.rfl w (ResR.fz rfl)⟩
  · cases hg⟩
theorem jc_all (hc : X.calm = true) : JC X cm (.builtin "all") bAll := ⟨_, cr_all hc, fun lk sp G F H S ds vs res w rr hg Q q => by
  unfold bAll at hg
  split at hg
  · obtain ⟨ns, h1, rfl⟩ := Option.map_eq_some_iff.mp hg
    obtain ⟨v, rfl, r⟩ := rr.one
    obtain ⟨p, us, rfl, hp, r2⟩ := r.lst w
    exact ⟨p, ns, rfl, SqL.of (by rw [hp, r2.bls h1]), q G H _ Le.rfl w (ResR.fz rfl)⟩
  · cases hg⟩
theorem jc_any (hc : X.calm = true) : JC X cm (.builtin "any") bAny := ⟨_, cr_any hc, fun lk sp G F H S ds vs res w rr hg Q q => by
  unfold bAny at hg
  split at hg
  · obtain ⟨ns, h1, rfl⟩ := Option.map_eq_some_iff.mp hg
    obtain ⟨v, rfl, r⟩ := rr.one
    obtain ⟨p, us, rfl, hp, r2⟩ := r.lst w
    exact ⟨p, ns, rfl, SqL.of (by rw [hp, r2.bls h1]), q G H _ Le.rfl w (ResR.fz rfl)⟩
  · cases hg⟩
/-- int, str, min, max, abs of ints -/
def bInt : Fb
  | [.int i] => some (fz (.int i))
  | [.bl k] => some (fz (.int (if k then 1 else 0)))
  | _ => none
theorem jc_int : JC X cm (.type "int") bInt := ⟨_, call_int1, fun lk sp G F H S ds vs res w rr hg Q q => by
  unfold bInt at hg
  split at hg
  · cases hg
    obtain ⟨v, rfl, r⟩ := rr.one
    exact .inl ⟨_, by rw [r.int], q G H _ Le.rfl w (ResR.fz rfl)⟩
  · cases hg
    obtain ⟨v, rfl, r⟩ := rr.one
    exact .inr ⟨_, by rw [r.bl], q G H _ Le.rfl w (ResR.fz rfl)⟩
  · cases hg⟩
def bStr : Fb
  | [.int i] => if i.natAbs < 10 ^ 500 then some (fz (.str (toString i))) else none
  | _ => none
theorem log_small {n : Nat} (h : n < 10 ^ 500) : n.log2 < 1920 := by
  by_cases h0 : n = 0
  · subst h0; decide
  · exact (Nat.log2_lt h0).mpr (Nat.lt_of_lt_of_le h (by decide +kernel))
theorem jc_str : JC X cm (.type "str") bStr := ⟨_, call_str_int, fun lk sp G F H S ds vs res w rr hg Q q => by
  unfold bStr at hg
  split at hg
  · split at hg
    · rename_i i hi
      cases hg
      obtain ⟨v, rfl, r⟩ := rr.one
      exact ⟨i, by rw [r.int], log_small hi, q G H _ Le.rfl w (ResR.fz rfl)⟩
    · cases hg
  · cases hg⟩
end
end Al


set_option Elab.async false
set_option linter.all false
set_option maxRecDepth 100000
/-! The spring; own objects written at; calls that hand the spring on. -/
namespace Al
open PySem PySem.Spec PyProof.Rows L2
section
variable {cm : CM} {lk : Addr → Option Obj} {sp : Addr} {G G' F0 F H H' : Hp} {σ : St} {e : En} {S' : Option Spr} {K : PySem.W.Frag}
/-! ### the world, one object of it changed -/
theorem WR.setF {S : Option Spr} {p : Addr} {u u' : HO} (w : WR lk sp G F H S) (hp : F p = some u) (nt : ∀ xs, u' ≠ .tup xs) : WR lk sp G (upd F p u') (upd H p u') S :=
  ⟨fun q v e => by
    have hq : q ≠ p := fun z => by rw [z, w.fg p u hp] at e; cases e
    rw [upd_ne hq]; exact w.gh q v e,
   fun q v e => by
    by_cases hq : q = p
    · subst hq; rw [upd_same] at e ⊢; exact e
    · rw [upd_ne hq] at e ⊢; exact w.fh q v e,
   fun q v e => by
    by_cases hq : q = p
    · subst hq; exact w.fg q u hp
    · rw [upd_ne hq] at e; exact w.fg q v e,
   w.lg,
   fun s e => by
    obtain ⟨a, b, c⟩ := w.sp s e
    have hq : sp ≠ p := fun z => by rw [z, hp] at c; cases c
    exact ⟨by rw [upd_ne hq]; exact a, b, by rw [upd_ne hq]; exact c⟩,
   fun q xs e => by
    by_cases hq : q = p
    · subst hq; rw [upd_same] at e; cases e; exact nt xs rfl
    · rw [upd_ne hq] at e; exact w.ft q xs e⟩
theorem Rep2.upd {p : Addr} {u' : HO} : ∀ {ds : List (Key × D)} {vs : List (Key × V)}, Rep2 cm G F ds vs → (∀ k, (k, V.ref p) ∉ vs) → Rep2 cm G (upd F p u') ds vs
  | [], _, r, _ => r
  | _ :: _, _, ⟨q, u, t, e, h, o, n, b⟩, hn => by
    subst e
    have hq : q ≠ p := fun z => hn _ (by rw [← z]; exact List.mem_cons_self)
    exact ⟨q, u, t, rfl, by rw [upd_ne hq]; exact h, o, n, b.upd fun k m => hn k (List.mem_cons_of_mem _ m)⟩
/-- a cell that does not own p -/
theorem CellR.upd {p : Addr} {u' : HO} {o : Option V} : ∀ {c : Cell}, CellR cm sp G F o c → ¬ Ft F o c p → CellR cm sp G (upd F p u') o c
  | .no, _, _ => trivial
  | .frz d, h, _ => h
  | .own d, ⟨q, u, e, h, r⟩, n => ⟨q, u, e, by rw [upd_ne fun z => n (by show o = _; rw [e, z])]; exact h, r⟩
  | .own2 ds, ⟨q, vs, e, h, m, r⟩, n => ⟨q, vs, e, by rw [upd_ne fun z => n (.inl (by rw [e, z]))]; exact h, m, r.upd fun k w => n (.inr ⟨q, vs, k, e, h, w⟩)⟩
  | .spr, h, _ => h
  | .raw v, h, _ => h
theorem Ft.upd {p q : Addr} {u' : HO} {o : Option V} : ∀ {c : Cell}, ¬ Ft F o c p → Ft (upd F p u') o c q → Ft F o c q
  | .no, _, h => h
  | .frz d, _, h => h
  | .own d, _, h => h
  | .own2 ds, n, h => by
    rcases h with h | ⟨q', vs, k, a, b, m⟩
    · exact .inl h
    · rw [upd_ne fun z => n (.inl (by rw [a, z]))] at b
      exact .inr ⟨q', vs, k, a, b, m⟩
  | .spr, _, h => h
  | .raw v, _, h => h
/-- the own object of the slot i changes -/
theorem ER.own {i : Nat} {d d' : D} {p : Addr} {u u' : HO} (x : ER cm lk sp G F H σ e) (hi : e.cs[i]? = some (.own d)) (hs : σ[i]? = some (some (.ref p))) (hp : F p = some u) (ho : ObjR cm G d' u') (nt : ∀ xs, u' ≠ .tup xs) :
    ER cm lk sp G (upd F p u') (upd H p u') σ (e.put i (.own d')) := by
  have nf : ∀ (j : Nat) (c : Cell) (o : Option V), j ≠ i → e.cs[j]? = some c → σ[j]? = some o → ¬ Ft F o c p := fun j c o hj a b f => x.s j i c (.own d) o _ p hj a hi b hs f rfl
  refine ⟨x.w.setF hp nt, fun j c q => ?_, fun a b c1 c2 o1 o2 q hab a1 a2 b1 b2 f1 f2 => ?_, x.b⟩
  · by_cases hj : j = i
    · subst hj
      obtain ⟨rfl, _⟩ := putn q
      exact ⟨_, hs, p, u', rfl, upd_same, ho⟩
    · obtain ⟨o, k1, k2⟩ := x.c j c (putc hj q)
      exact ⟨o, k1, k2.upd (nf j c o hj (putc hj q) k1)⟩
  · by_cases ha : a = i
    · subst ha
      obtain ⟨rfl, _⟩ := putn a1
      exact x.s a b (.own d) c2 o1 o2 q hab hi (putc (Ne.symm hab) a2) b1 b2 f1 (Ft.upd (nf b c2 o2 (Ne.symm hab) (putc (Ne.symm hab) a2) b2) f2)
    · by_cases hb : b = i
      · subst hb
        obtain ⟨rfl, _⟩ := putn a2
        exact x.s a b c1 (.own d) o1 o2 q hab (putc ha a1) hi b1 b2 (Ft.upd (nf a c1 o1 ha (putc ha a1) b1) f1) f2
      · exact x.s a b c1 c2 o1 o2 q hab (putc ha a1) (putc hb a2) b1 b2 (Ft.upd (nf a c1 o1 ha (putc ha a1) b1) f1) (Ft.upd (nf b c2 o2 hb (putc hb a2) b2) f2)
theorem SR.own {i : Nat} {d d' : D} {p : Addr} {u u' : HO} (l : Le F0 F) (x : ER cm lk sp G F H σ e) (y : Out F F0 σ e.cs) (hi : e.cs[i]? = some (.own d)) (hs : σ[i]? = some (some (.ref p))) (hp : F p = some u) (ho : ObjR cm G d' u') (nt : ∀ xs, u' ≠ .tup xs) :
    SR cm lk sp G F0 (upd H p u') σ (e.put i (.own d')) := by
  have f0 : F0 p = none := y i _ _ p hi hs rfl
  refine ⟨upd F p u', fun q v h => ?_, x.own hi hs hp ho nt, fun j c o q a b f => ?_⟩
  · have hq : q ≠ p := fun z => by rw [z, f0] at h; cases h
    rw [upd_ne hq]; exact l q v h
  · by_cases hj : j = i
    · subst hj
      obtain ⟨rfl, _⟩ := putn a
      exact y j _ o q hi b f
    · have a' := putc hj a
      exact y j c o q a' b (Ft.upd (fun f' => x.s j i c (.own d) o _ p hj a' hi b hs f' rfl) f)
/-! ### own lists, dicts written at -/
/-- what a method does at an own object: its result, the new object -/
abbrev Mu := D → List D → Option (D × D)
def tyD (T : String) : D → Bool
  | .lst _ => T == "list"
  | .dk _ => T == "dict"
  | .dt _ => T == "dict"
  | _ => false
theorem tyD_ok {T : String} {d : D} {p : Addr} {u : HO} (h : H p = some u) (o : ObjR cm G d u) (e : tyD T d = true) : tyV K T (.ref p) H := by
  cases d with
  | lst ds => obtain ⟨vs, rfl, _⟩ := o; exact .inl ⟨eq_of_beq e, vs, SqL.of h⟩
  | dk ds => obtain ⟨vs, rfl, _⟩ := o; exact .inr (.inr (.inl ⟨eq_of_beq e, .inl ⟨vs, h⟩⟩))
  | dt ds => obtain ⟨vs, rfl, _⟩ := o; exact .inr (.inr (.inl ⟨eq_of_beq e, .inr ⟨vs, h⟩⟩))
  | _ => cases e
def MOk (cm : CM) (T : String) (r : V → List V → Hp → VK → Prop) (g : Mu) : Prop := (∀ d ds res d', g d ds = some (res, d') → tyD T d = true) ∧ ∀ (G H : Hp) d ds d' res u p vs, H p = some u → ObjR cm G d u → Reps cm G ds vs → g d ds = some (res, d') →
  ∃ u' v, ObjR cm G d' u' ∧ (∀ xs, u' ≠ .tup xs) ∧ Rep cm G res v ∧ ∀ Q : VK, Q v (upd H p u') → r (.ref p) vs H Q
def sMu (i : Nat) (g : Mu) (fa : AF) : FS := fun e => (fa e).bind fun r => match e.cs[i]? with
  | some (.own d) => (g d r.1).map fun q => (.nx, (e.st r.2).put i (.own q.2))
  | _ => none

def putD {κ : Type} [DecidableEq κ] (kvs : List (κ × D)) (k : κ) (v : D) : List (κ × D) := if (kvs.any fun kv => decide (kv.1 = k)) = true then kvs.map (fun kv => if kv.1 = k then (kv.1, v) else kv) else kvs ++ [(k, v)]
theorem RepK.any {k : Key} : ∀ {ds : List (Key × D)} {vs : List (Key × V)}, RepK cm G ds vs → (vs.any fun kv => decide (kv.1 = k)) = ds.any fun kv => decide (kv.1 = k)
  | [], _, r => by obtain rfl : _ = [] := r; rfl
  | (k', d) :: ds, _, ⟨v, t, e, a, b⟩ => by subst e; rw [List.any_cons, List.any_cons, RepK.any b]
theorem RepK.map {k : Key} {d' : D} {v' : V} (h : Rep cm G d' v') : ∀ {ds : List (Key × D)} {vs : List (Key × V)}, RepK cm G ds vs → RepK cm G (ds.map fun kv => if kv.1 = k then (kv.1, d') else kv) (vs.map fun kv => if kv.1 = k then (kv.1, v') else kv)
  | [], _, r => by obtain rfl : _ = [] := r; exact rfl
  | (k', d) :: ds, _, ⟨v, t, e, a, b⟩ => by
    subst e
    rw [List.map_cons, List.map_cons]
    by_cases hk : k' = k
    · simp only [hk, if_true]; exact ⟨v', _, rfl, h, RepK.map h b⟩
    · simp only [hk, if_false]; exact ⟨v, _, rfl, a, RepK.map h b⟩
theorem RepK.app : ∀ {ds es : List (Key × D)} {vs ws : List (Key × V)}, RepK cm G ds vs → RepK cm G es ws → RepK cm G (ds ++ es) (vs ++ ws)
  | [], _, _, _, r, q => by have r' : _ = [] := r; rw [r']; exact q
  | (_, _) :: ds, _, _, _, ⟨v, t, e, a, b⟩, q => by subst e; exact ⟨v, _, rfl, a, RepK.app b q⟩
theorem RepK.put {k : Key} {d : D} {v : V} {ds : List (Key × D)} {vs : List (Key × V)} (r : RepK cm G ds vs) (h : Rep cm G d v) : RepK cm G (putD ds k d) (putK vs k v) := by
  unfold putD putK
  rw [r.any]
  split
  · exact r.map h
  · exact r.app ⟨v, [], rfl, h, rfl⟩
theorem RepD.any {k : List Key} : ∀ {ds : List (List Key × D)} {vs : List (List Key × V)}, RepD cm G ds vs → (vs.any fun kv => decide (kv.1 = k)) = ds.any fun kv => decide (kv.1 = k)
  | [], _, r => by obtain rfl : _ = [] := r; rfl
  | (k', d) :: ds, _, ⟨v, t, e, a, b⟩ => by subst e; rw [List.any_cons, List.any_cons, RepD.any b]
theorem RepD.map {k : List Key} {d' : D} {v' : V} (h : Rep cm G d' v') : ∀ {ds : List (List Key × D)} {vs : List (List Key × V)}, RepD cm G ds vs → RepD cm G (ds.map fun kv => if kv.1 = k then (kv.1, d') else kv) (vs.map fun kv => if kv.1 = k then (kv.1, v') else kv)
  | [], _, r => by obtain rfl : _ = [] := r; exact rfl
  | (k', d) :: ds, _, ⟨v, t, e, a, b⟩ => by
    subst e
    rw [List.map_cons, List.map_cons]
    by_cases hk : k' = k
    · simp only [hk, if_true]; exact ⟨v', _, rfl, h, RepD.map h b⟩
    · simp only [hk, if_false]; exact ⟨v, _, rfl, a, RepD.map h b⟩
theorem RepD.app : ∀ {ds es : List (List Key × D)} {vs ws : List (List Key × V)}, RepD cm G ds vs → RepD cm G es ws → RepD cm G (ds ++ es) (vs ++ ws)
  | [], _, _, _, r, q => by have r' : _ = [] := r; rw [r']; exact q
  | (_, _) :: ds, _, _, _, ⟨v, t, e, a, b⟩, q => by subst e; exact ⟨v, _, rfl, a, RepD.app b q⟩
theorem RepD.put {k : List Key} {d : D} {v : V} {ds : List (List Key × D)} {vs : List (List Key × V)} (r : RepD cm G ds vs) (h : Rep cm G d v) : RepD cm G (putD ds k d) (putK vs k v) := by
  unfold putD putK
  rw [r.any]
  split
  · exact r.map h
  · exact r.app ⟨v, [], rfl, h, rfl⟩
theorem lt_sz {n m : Nat} (h : n = m) (k : m < 100000) : n < sizeLine := by rw [h]; exact Nat.lt_of_lt_of_le k (by decide)
end
section
variable {X : Cx} {cm : CM} {pos : Pos}
/-- methods of own objects, as statements -/
theorem js_mu {T id : String} {m : Str} {r : V → List V → Hp → VK → Prop} {g : Mu} {e : Expr} {es : List Expr} {fa : AF} {p1 p2 p3 : Pos} (i : Nat) {x : Str} (pa : PlainAttrs T) (slot : Slot T m id) (hty : typeOf (.builtin id) = pure (.type "method_descriptor")) (hm : MtR X id r) (hg : MOk cm T r g) (ha : JK X cm (e :: es) fa)
    (hN : X.N[i]? = some x := by rfl) (hv : Vis X.env.scope x := by first | exact Or.inl rfl | exact Or.inr (Or.inl rfl) | exact Or.inr (Or.inr rfl)) (hd : (x == ("__debug__" : Str)) = false := by decide)
    (hcd : (x == ("__classdict__" : Str)) = false := by decide) (hbase : attributeBase (.Name x p1) m X.env (eval (.Name x p1) X.env) = eval (.Name x p1) X.env := by rfl)
    (hfew : ((backTo p3 (starEach (e :: es) X.env)).all (fun x => !x.1) && (backToKw p3 (keywordEach [] X.env)).all (fun x => x.1.isSome) && decide ((e :: es).length + ([] : List Keyword).length + (if ([] : List Keyword).isEmpty then 0 else 1) < 30)) = true := by rfl)
    (hline : (p2.endLine == p3.line) = true := by rfl) (hs : starEach (e :: es) X.env = (false, eval e X.env) :: starEach es X.env := by rfl) (hplain : (backTo p3 (starEach es X.env)).any (·.1) = false := by rfl)
    (hsw : swapsWith (.Call (.Attribute (.Name x p1) m p2) (e :: es) [] p3) none pos.line X.env = pure false := by rfl) : JS X cm (.Expr (.Call (.Attribute (.Name x p1) m p2) (e :: es) [] p3) pos) (sMu i g fa) := by
  obtain ⟨t, p, q⟩ := ha.ex
  refine .of ⟨_, ps_expr (pe_bm pa slot hty hm (pe_var hN hv hd hcd) p hbase hfew hline hs hplain) hsw, fun lk sp G F0 H σ e fl e' x hf D k => ?_⟩
  obtain ⟨⟨ds, S1⟩, z1, hf⟩ := Option.bind_eq_some_iff.mp hf
  obtain ⟨F, l, x, y⟩ := x
  split at hf
  · rename_i d hd
    obtain ⟨⟨res, d'⟩, z2, hf⟩ := Option.map_eq_some_iff.mp hf
    cases hf
    obtain ⟨o, h1, p, u, rfl, h3, h4⟩ := x.c i _ hd
    refine ⟨.ref p, h1, ?_, ?_⟩
    · exact tyD_ok (x.w.fh p u h3) h4 (hg.1 d ds res d' z2)
    · refine q lk sp G F H σ e ds S1 x z1 _ fun G1 H1 vs g1 w1 r1 => ?_
      have x1 : ER cm lk sp G1 F H1 σ (e.st S1) := x.next g1 Le.rfl w1
      obtain ⟨u', v, o1, nt, _, k2⟩ := hg.2 G1 H1 d ds d' res u p vs (w1.fh p u h3) (h4.mono g1) r1 z2
      exact k2 _ (k G1 _ σ g1 (SR.own l x1 (y.up Le.rfl x.c) hd h1 h3 o1 nt))
  · cases hf

def muApp : Mu
  | .lst ds, [d] => if ds.length < 100000 then some (.non, .lst (ds ++ [d])) else none
  | _, _ => none
theorem mok_app : MOk cm "list" rAppend muApp := ⟨(fun d ds res d' h => by
  unfold muApp at h
  split at h
  · rfl
  · cases h), fun G H d ds d' res u p vs hp o r h => by
  unfold muApp at h
  split at h
  · split at h
    · rename_i hl
      cases h
      obtain ⟨ws, rfl, ro⟩ := o
      obtain ⟨v, t, rfl, rv, rfl⟩ := r
      exact ⟨.lst (ws ++ [v]), .non, ⟨_, rfl, ro.app (Reps.one rv)⟩, (fun xs z => by cases z), rfl, fun Q q => ⟨p, ws, v, rfl, rfl, hp, lt_sz ro.len hl, q⟩⟩
    · cases h
  · cases h⟩
/-- o[k] = v at an own object -/
abbrev Pu := D → D → D → Option D
def sSt (i : Nat) (g : Pu) (fk : PF) (fv : FE) : FS := fun e => (fv e).bind fun v => (fk (e.st v.2)).bind fun k => match e.cs[i]? with
  | some (.own d) => (g d k.1 v.1.d).map fun d' => (.nx, (e.st k.2).put i (.own d'))
  | _ => none
def puD : Pu
  | .dk ds, k, v => (toKey k).bind fun k => if ds.length < 100000 then some (.dk (putD ds k v)) else none
  | .dt ds, .tup ks, v => (toKeys ks).bind fun k => if ds.length < 100000 then some (.dt (putD ds k v)) else none
  | _, _, _ => none
def puL : Pu
  | .lst ds, .int k, v => (ixN ds.length k).map fun j => .lst (ds.set j v)
  | _, _, _ => none
theorem RepK.hlen {G : Hp} {ds : List (Key × D)} {vs : List (Key × V)} (r : RepK cm G ds vs) (h : ds.length < 100000) : vs.length < sizeLine := lt_sz r.len h
theorem RepD.hlen {G : Hp} {ds : List (List Key × D)} {vs : List (List Key × V)} (r : RepD cm G ds vs) (h : ds.length < 100000) : vs.length < sizeLine := lt_sz r.len h
theorem puD_ok {lk : Addr → Option Obj} {sp : Addr} {G F H : Hp} {S : Option Spr} {d k v d' : D} {p : Addr} {u : HO} {kv vv : V} (w : WR lk sp G F H S) (hp : H p = some u) (o : ObjR cm G d u) (rk : RepT cm G F k kv) (rv : Rep cm G v vv) (h : puD d k v = some d') :
    ∃ u', DPut H p kv vv (upd H p u') ∧ ObjR cm G d' u' ∧ ∀ xs, u' ≠ .tup xs := by
  unfold puD at h
  split at h
  · obtain ⟨k', h1, h⟩ := Option.bind_eq_some_iff.mp h
    split at h
    · rename_i hl
      cases h
      obtain ⟨ws, rfl, ro⟩ := o
      rw [rk.key h1]
      exact ⟨_, DPut.k hp (ro.hlen hl), ⟨_, rfl, ro.put rv⟩, fun xs z => by cases z⟩
    · cases h
  · obtain ⟨k', h1, h⟩ := Option.bind_eq_some_iff.mp h
    split at h
    · rename_i hl
      cases h
      obtain ⟨ws, rfl, ro⟩ := o
      obtain ⟨b, us, rfl, hb, rs⟩ := rk.tup w
      rw [rs.keys h1] at hb
      exact ⟨_, DPut.t hp hb (ro.hlen hl), ⟨_, rfl, ro.put rv⟩, fun xs z => by cases z⟩
    · cases h
  · cases h
theorem js_stD {ev ek : Expr} {fv : FE} {fk : PF} {p1 p2 : Pos} (i : Nat) {x : Str} (hu : X.A.units + 1 < cLine) (he : JE X cm ev fv) (hk : JP X cm ek fk)
    (hN : X.N[i]? = some x := by rfl) (hv : Vis X.env.scope x := by first | exact Or.inl rfl | exact Or.inr (Or.inl rfl) | exact Or.inr (Or.inr rfl)) (hd : (x == ("__debug__" : Str)) = false := by decide)
    (hcd : (x == ("__classdict__" : Str)) = false := by decide) (hs : swapsWith ev (some (.Subscript (.Name x p1) ek p2)) pos.line X.env = pure false := by rfl) : JS X cm (.Assign [.Subscript (.Name x p1) ek p2] ev pos) (sSt i puD fk fv) := by
  obtain ⟨tv, v1, v2⟩ := he.ex
  obtain ⟨tk, k1, k2⟩ := hk.ex
  refine .of ⟨_, ps_dput hu (pe_var hN hv hd hcd) k1 v1 hs, fun lk sp G F0 H σ e fl e' x hf D k => ?_⟩
  obtain ⟨⟨r, S1⟩, z1, hf⟩ := Option.bind_eq_some_iff.mp hf
  obtain ⟨⟨dk, S2⟩, z2, hf⟩ := Option.bind_eq_some_iff.mp hf
  obtain ⟨F, l, x, y⟩ := x
  split at hf
  · rename_i d hd
    obtain ⟨d', z3, hf⟩ := Option.map_eq_some_iff.mp hf
    cases hf
    obtain ⟨o, h1, p, u, rfl, h3, h4⟩ := x.c i _ hd
    refine v2 lk sp G F H σ e r S1 x z1 _ fun G1 H1 v g1 w1 r1 => ?_
    obtain ⟨G2, g2, w2, r2⟩ := r1.freeze w1
    refine ⟨.ref p, h1, ?_⟩
    have x2 : ER cm lk sp G2 F H1 σ (e.st S1) := x.next (g1.trans g2) Le.rfl w2
    refine k2 lk sp G2 F H1 σ _ dk S2 x2 z2 _ fun G3 F3 H3 kv g3 f3 w3 r3 => ?_
    have w3' := w3.lessF f3
    have x3 : ER cm lk sp G3 F H3 σ (e.st S2) := x2.next g3 Le.rfl w3'
    obtain ⟨u', k1, o1, nt⟩ := puD_ok w3 (w3'.fh p u h3) (h4.mono ((g1.trans g2).trans g3)) r3 (r2.mono g3 _ _) z3
    exact ⟨p, _, rfl, k1, k G3 _ σ ((g1.trans g2).trans g3) (SR.own l x3 y hd h1 h3 o1 nt)⟩
  · cases hf
theorem puL_inv {d k v d' : D} (h : puL d k v = some d') : ∃ ds i j, d = .lst ds ∧ k = .int i ∧ ixN ds.length i = some j ∧ d' = .lst (ds.set j v) := by
  unfold puL at h
  split at h
  · obtain ⟨j, hj, rfl⟩ := Option.map_eq_some_iff.mp h
    exact ⟨_, _, j, rfl, rfl, hj, rfl⟩
  · cases h
theorem js_stL {ev ek : Expr} {fv : FE} {fk : PF} {p1 p2 : Pos} (i : Nat) {x : Str} (he : JE X cm ev fv) (hk : JP X cm ek fk)
    (hN : X.N[i]? = some x := by rfl) (hv : Vis X.env.scope x := by first | exact Or.inl rfl | exact Or.inr (Or.inl rfl) | exact Or.inr (Or.inr rfl)) (hd : (x == ("__debug__" : Str)) = false := by decide)
    (hcd : (x == ("__classdict__" : Str)) = false := by decide)
    (ha : ∀ v, assign (.Subscript (.Name x p1) ek p2) X.env v = (do let ov ← holding [v] (eval (.Name x p1) X.env); let iv ← holding [v, ov] (eval ek X.env); standAt p2; holding [v, ov, iv] (setItem ov iv v); release [v, ov, iv] []) := by intro _; rfl)
    (hs : swapsWithSole [.Subscript (.Name x p1) ek p2] ev pos.line X.env = pure false := by rfl) (hw : swappedStores [.Subscript (.Name x p1) ek p2] ev X.env = pure none := by rfl) (h1 : (assignEach [.Subscript (.Name x p1) ek p2] X.env).map (·.2) = [assign (.Subscript (.Name x p1) ek p2) X.env] := by rfl) :
    JS X cm (.Assign [.Subscript (.Name x p1) ek p2] ev pos) (sSt i puL fk fv) := by
  obtain ⟨tv, v1, v2⟩ := he.ex
  obtain ⟨tk, k1, k2⟩ := hk.ex
  refine .of ⟨_, ps_asg v1 (pg_sub (pe_var hN hv hd hcd) k1 set_list ha) hs hw h1, fun lk sp G F0 H σ e fl e' x hf D k => ?_⟩
  obtain ⟨⟨r, S1⟩, z1, hf⟩ := Option.bind_eq_some_iff.mp hf
  obtain ⟨⟨dk, S2⟩, z2, hf⟩ := Option.bind_eq_some_iff.mp hf
  obtain ⟨F, l, x, y⟩ := x
  split at hf
  · rename_i d hd
    obtain ⟨d', z3, hf⟩ := Option.map_eq_some_iff.mp hf
    cases hf
    obtain ⟨o, h1, p, u, rfl, h3, h4⟩ := x.c i _ hd
    refine v2 lk sp G F H σ e r S1 x z1 _ fun G1 H1 v g1 w1 r1 => ?_
    obtain ⟨G2, g2, w2, r2⟩ := r1.freeze w1
    refine ⟨.ref p, h1, ?_⟩
    have x2 : ER cm lk sp G2 F H1 σ (e.st S1) := x.next (g1.trans g2) Le.rfl w2
    refine k2 lk sp G2 F H1 σ _ dk S2 x2 z2 _ fun G3 F3 H3 kv g3 f3 w3 r3 => ?_
    have w3' := w3.lessF f3
    have x3 : ER cm lk sp G3 F H3 σ (e.st S2) := x2.next g3 Le.rfl w3'
    obtain ⟨as, ki, j, rfl, rfl, hj, rfl⟩ := puL_inv z3
    obtain ⟨ws, rfl, ro⟩ := h4.mono ((g1.trans g2).trans g3)
    exact ⟨p, ws, _, j, rfl, r3.int, w3'.fh p _ h3, by rw [ro.len]; exact hj, k G3 _ σ ((g1.trans g2).trans g3) (SR.own l x3 y hd h1 h3 ⟨_, rfl, Reps.set (r2.mono g3 _ _) j ro⟩ fun xs z => by cases z)⟩
  · cases hf
/-- o[k] += v at an own dict, of whole numbers -/
def sAgD (i : Nat) (op : Int → Int → Int) (fk : PF) (fv : FE) : FS := fun e => (fk e).bind fun k => (fv (e.st k.2)).bind fun v => match e.cs[i]?, v.1.d with
  | some (.own d), .int b => match lookD d k.1 with
    | some (some (.int a)) => (puD d k.1 (.int (op a b))).map fun d' => (.nx, (e.st v.2).put i (.own d'))
    | _ => none
  | _, _ => none
theorem js_agD {op : Operator} {o : Int → Int → Int} {rd : V → V → Hp → VK → Prop} {ev ek : Expr} {fv : FE} {fk : PF} {p1 p2 : Pos} (i : Nat) {x : Str} (hop : InOp X op rd) (hr : ∀ a b H (Q : VK), Q (.int (o a b)) H → rd (.int a) (.int b) H Q) (hu : X.A.units + 1 < cLine) (he : JE X cm ev fv) (hk : JP X cm ek fk)
    (hN : X.N[i]? = some x := by rfl) (hv : Vis X.env.scope x := by first | exact Or.inl rfl | exact Or.inr (Or.inl rfl) | exact Or.inr (Or.inr rfl)) (hd : (x == ("__debug__" : Str)) = false := by decide)
    (hcd : (x == ("__classdict__" : Str)) = false := by decide) (ha : ∀ ov iv new, augStore ek ov iv new = (do holding [new, ov, iv] (setItem ov iv new); release [new, ov, iv] []; pure .next) := by intro _ _ _; rfl) : JS X cm (.AugAssign (.Subscript (.Name x p1) ek p2) op ev pos) (sAgD i o fk fv) := by
  obtain ⟨tv, v1, v2⟩ := he.ex
  obtain ⟨tk, k1, k2⟩ := hk.ex
  refine .of ⟨_, ps_daug hu (pe_var hN hv hd hcd) k1 v1 hop ha, fun lk sp G F0 H σ e fl e' x hf D k => ?_⟩
  obtain ⟨⟨dk, S1⟩, z1, hf⟩ := Option.bind_eq_some_iff.mp hf
  obtain ⟨⟨r, S2⟩, z2, hf⟩ := Option.bind_eq_some_iff.mp hf
  obtain ⟨F, l, x, y⟩ := x
  split at hf
  · rename_i d b hd hb
    split at hf
    · rename_i a hl
      obtain ⟨d', z3, hf⟩ := Option.map_eq_some_iff.mp hf
      cases hf
      obtain ⟨ov, h1, p, u, rfl, h3, h4⟩ := x.c i _ hd
      refine ⟨.ref p, h1, ?_⟩
      refine k2 lk sp G F H σ e dk S1 x z1 _ fun G1 F1 H1 kv g1 f1 w1 r1 => ?_
      have x1 : ER cm lk sp G1 F1 H1 σ (e.st S1) := x.next g1 f1 w1
      obtain ⟨p', o', e1, e2, _, e4⟩ := lookD_ok w1 (.inr ⟨p, u, rfl, f1 _ _ h3, h4.mono g1⟩ : RepT cm G1 F1 d (.ref p)) r1 hl
      cases e1
      obtain ⟨_, rfl, rv⟩ := e4 _ rfl
      cases (show _ = V.int a from rv)
      refine ⟨p, .int a, rfl, e2, ?_⟩
      refine v2 lk sp G1 F1 H1 σ _ r S2 x1 z2 _ fun G2 H2 v g2 w2 r2 => ?_
      rw [r2.int hb]
      have w2' := w2.lessF f1
      have x2 : ER cm lk sp G2 F H2 σ (e.st S2) := x.next (g1.trans g2) Le.rfl w2'
      obtain ⟨u', k1, o1, nt⟩ := puD_ok w2 (w2'.fh p u h3) (h4.mono (g1.trans g2)) (r1.mono g2 Le.rfl) (show Rep cm G2 (.int (o a b)) (.int (o a b)) from rfl) z3
      exact hr a b _ _ ⟨_, k1, k G2 _ σ (g1.trans g2) (SR.own l x2 y hd h1 h3 o1 nt)⟩
    · cases hf
  · cases hf
/-- x += v, of whole numbers -/
def sAgN (i : Nat) (op : Int → Int → Int) (fv : FE) : FS := fun e => match e.cs[i]? with
  | some (.frz (.int a)) => (fv e).bind fun v => match v.1.d with
    | .int b => some (.nx, (e.st v.2).put i (.frz (.int (op a b))))
    | _ => none
  | _ => none
theorem js_agN {op : Operator} {o : Int → Int → Int} {ev : Expr} {fv : FE} {p1 : Pos} (i : Nat) {x : Str} (hop : PIp X op (ipI o)) (hN : X.N.Nodup) (he : JE X cm ev fv)
    (hi : X.N[i]? = some x := by rfl) (hx : Loc X.env.scope x := by first | exact Or.inl rfl | exact Or.inr rfl)
    (hf : X.fn x = true ∨ X.env.scope.names.lookup x = some .local := by first | exact .inl rfl | exact .inr rfl) : JS X cm (.AugAssign (.Name x p1) op ev pos) (sAgN i o fv) := by
  obtain ⟨tv, v1, v2⟩ := he.ex
  refine .of ⟨_, ps_aug hN hi hx v1 hop hf, fun lk sp G F0 H σ e fl e' x hf D k => ?_⟩
  unfold sAgN at hf
  split at hf
  · rename_i a hd
    obtain ⟨⟨r, S1⟩, z1, hf⟩ := Option.bind_eq_some_iff.mp hf
    obtain ⟨F, l, x, y⟩ := x
    obtain ⟨ov, h1, v, rfl, h3⟩ := x.c i _ hd
    cases (show v = V.int a from h3)
    refine ⟨.int a, h1, ?_⟩
    refine v2 lk sp G F H σ e r S1 x z1 _ fun G1 H1 v g1 w1 r1 => ?_
    cases hb : r.d with
    | int b =>
      simp only [hb] at hf
      cases hf
      rw [r1.int hb]
      exact ⟨a, b, rfl, rfl, k G1 H1 _ g1 (SR.setF ⟨F, l, x.next g1 Le.rfl w1, y⟩ rfl)⟩
    | _ => simp only [hb] at hf; cases hf
  · cases hf
end
end Al


set_option Elab.async false
set_option linter.all false
set_option maxRecDepth 100000
/-! The spring. -/
namespace Al
open PySem PySem.Spec PyProof.Rows L2
section
variable {cm : CM} {lk : Addr → Option Obj} {sp : Addr} {G G' F0 F H H' : Hp} {σ : St} {e : En} {S' : Option Spr} {K : PySem.W.Frag}
/-- an argument: a thing, or the spring -/
def RepO (cm : CM) (sp : Addr) (G : Hp) : List (Option D) → List V → Prop
  | [], vs => vs = []
  | some d :: ds, vs => ∃ v r, vs = v :: r ∧ Rep cm G d v ∧ RepO cm sp G ds r
  | none :: ds, vs => ∃ r, vs = V.ref sp :: r ∧ RepO cm sp G ds r
theorem RepO.mono (g : Le G G') : ∀ {ds : List (Option D)} {vs : List V}, RepO cm sp G ds vs → RepO cm sp G' ds vs
  | [], _, r => r
  | some d :: ds, _, ⟨v, t, e, a, b⟩ => ⟨v, t, e, a.mono g _ _, b.mono g⟩
  | none :: ds, _, ⟨t, e, b⟩ => ⟨t, e, b.mono g⟩
theorem RepO.len : ∀ {ds : List (Option D)} {vs : List V}, RepO cm sp G ds vs → vs.length = ds.length
  | [], _, r => by obtain rfl : _ = [] := r; rfl
  | some d :: ds, _, ⟨v, t, e, _, b⟩ => by rw [e, List.length_cons, List.length_cons, RepO.len b]
  | none :: ds, _, ⟨t, e, b⟩ => by rw [e, List.length_cons, List.length_cons, RepO.len b]
abbrev SF := En → Option (List (Option D) × Option Spr)
def QOk (cm : CM) (t : TA) (f : SF) : Prop := ∀ lk sp G F H σ e ds S', ER cm lk sp G F H σ e → f e = some (ds, S') → ∀ Q : List V → Hp → Prop,
  (∀ G' H' vs, Le G G' → WR lk sp G' F H' S' → RepO cm sp G' ds vs → Q vs H') → t σ H Q
def JQ (X : Cx) (cm : CM) (as : List Expr) (f : SF) : Prop := ∃ t, PA X as t ∧ QOk cm t f
abbrev FnS := Option Spr → List (Option D) → Option (Rs × Option Spr)
def spS (cm : CM) (Φ : FnS) (n : Nat) : Sp := fun vs H Q _ => ∃ lk sp G F S ds r S', WR lk sp G F H S ∧ RepO cm sp G ds vs ∧ Φ S ds = some (r, S') ∧ ds.length = n ∧
  ∀ G' H' v, Le G G' → WR lk sp G' F H' S' → ResR cm sp S' G' F H' v r → Q v H'
def fCallS (Φ : FnS) (fa : SF) : FE := fun e => (fa e).bind fun r => Φ r.2 r.1
theorem callS_ok {Φ : FnS} {n : Nat} {t : TA} {fa : SF} {E : XK} (q : QOk cm t fa) (hn : ∀ S ds r, Φ S ds = some r → ds.length = n) : EOk cm (tCall (spS cm Φ n) [] E t) (fCallS Φ fa) := fun lk sp G F H σ e r S' x hf Q k => by
  obtain ⟨⟨ds, S1⟩, z1, hf⟩ := Option.bind_eq_some_iff.mp hf
  refine q lk sp G F H σ e ds S1 x z1 _ fun G1 H1 vs g1 w1 r1 => ?_
  rw [List.append_nil]
  exact ⟨lk, sp, G1, F, S1, ds, r, S', w1, r1, hf, hn S1 ds _ hf, fun G2 H2 v g2 w2 r2 => k G2 H2 v (g1.trans g2) w2 r2⟩
def cellO : Option D → Cell
  | some d => .frz d
  | none => .spr
def runS (m : Nat) (f : FS) (S : Option Spr) (ds : List (Option D)) : Option (Rs × Option Spr) := (f ⟨S, ds.map cellO ++ List.replicate (m - ds.length) .no, fun _ => none⟩).bind fun r => match r.1 with
  | .rt x => some (x, r.2.S)
  | .nx => some (fz .non, r.2.S)
  | _ => none
theorem RepO.get : ∀ {ds : List (Option D)} {vs : List V} {i : Nat} {o : Option D}, RepO cm sp G ds vs → ds[i]? = some o → ∃ v, vs[i]? = some v ∧ CellR cm sp G F (some v) (cellO o)
  | [], _, _, _, _, h => by simp at h
  | some d :: ds, _, 0, _, ⟨v, t, e, a, _⟩, h => by
    simp at h; subst h; subst e
    exact ⟨v, by simp, v, rfl, a⟩
  | none :: ds, _, 0, _, ⟨t, e, _⟩, h => by
    simp at h; subst h; subst e
    exact ⟨V.ref sp, by simp, rfl⟩
  | some d :: ds, _, i + 1, o, ⟨v, t, e, _, b⟩, h => by
    subst e
    obtain ⟨w, h1, h2⟩ := RepO.get (i := i) b (by simpa using h)
    exact ⟨w, by simpa using h1, h2⟩
  | none :: ds, _, i + 1, o, ⟨t, e, b⟩, h => by
    subst e
    obtain ⟨w, h1, h2⟩ := RepO.get (i := i) b (by simpa using h)
    exact ⟨w, by simpa using h1, h2⟩
theorem cells_startS {N : List Str} {ds : List (Option D)} {vs : List V} (r : RepO cm sp G ds vs) : CellsR cm sp G F (L2.start N vs) (ds.map cellO ++ List.replicate (N.length - ds.length) .no) := by
  have hl := r.len
  intro i c q
  unfold L2.start
  by_cases hi : i < ds.length
  · rw [List.getElem?_append_left (by rw [List.length_map]; exact hi), List.getElem?_map, List.getElem?_eq_getElem hi] at q
    cases q
    obtain ⟨v, h1, h2⟩ := r.get (F := F) (List.getElem?_eq_getElem hi)
    refine ⟨some v, ?_, h2⟩
    rw [List.getElem?_append_left (by rw [List.length_map]; omega), List.getElem?_map, h1]
    rfl
  · rw [List.getElem?_append_right (by rw [List.length_map]; omega), List.length_map, List.getElem?_replicate] at q
    split at q
    · rename_i hr
      cases q
      refine ⟨none, ?_, trivial⟩
      rw [List.getElem?_append_right (by rw [List.length_map]; omega), List.length_map, List.getElem?_replicate, if_pos (by omega)]
    · cases q
end
section
variable {P : Program} {w : World} {K : PySem.W.Frag} {mg : Str → Option Value} {base : Heap} {cm : CM}
theorem def_okS {x qual : Str} {st : Stmt} {f : Addr} {fd : FuncData} {N ps : List Str} {k : Nat} {g : FS} (F : Fun K x qual st f fd) (S : FnScope N ps (defScope st))
    (hb : ∀ (q : Str) (f : Addr) (cdv : Value) (A : Around) (outer : List Env) (s : Shared) (H : Hp) (E : XK), Room k (A.deeper (envOfC q (defScope st) s.heap.objs.size f cdv)) → JB (cxOf CX0 P w K mg base N q (defScope st) f cdv A outer s H E).nox cm (defBody st) g) :
    FnOk P w K mg base CX0 (k + 1) f fd ps (spS cm (runS N.length g) ps.length) := by
  refine F.ok S (fun vs H Q E h => ?_) fun cdv A outer s H vs Q E hr h => ?_
  · obtain ⟨lk, sp, G, F, S, ds, r, S', _, h2, _, h4, _⟩ := h
    rw [h2.len, h4]
  · obtain ⟨t, p, q⟩ := (hb qual f cdv A outer s H E hr).ex
    refine ⟨t, p, ?_⟩
    obtain ⟨lk, sp, G, F, S, ds, r, S', h1, h2, h3, h4, h5⟩ := h
    unfold runS at h3
    obtain ⟨⟨fl, e'⟩, z1, h3⟩ := Option.bind_eq_some_iff.mp h3
    have noown : ∀ (i : Nat) c o p, (ds.map cellO ++ List.replicate (N.length - ds.length) .no)[i]? = some c → Ft F o c p → False := fun i c o p z f => by
      by_cases hi : i < ds.length
      · rw [List.getElem?_append_left (by rw [List.length_map]; exact hi), List.getElem?_map, List.getElem?_eq_getElem hi] at z
        cases z
        cases hd : ds[i] with
        | none => rw [hd] at f; exact f
        | some d => rw [hd] at f; exact f
      · rw [List.getElem?_append_right (by rw [List.length_map]; omega), List.getElem?_replicate] at z
        split at z
        · cases z; exact f
        · cases z
    refine q lk sp G F H (L2.start N vs) _ fl e' ⟨F, Le.rfl, ⟨h1, cells_startS h2, fun i j c c' o o' p _ z _ _ _ f _ => noown i c o p z f, (fun _ _ h => by cases h)⟩, fun i c o p z _ f => (noown i c o p z f).elim⟩ z1 _ ?_
    cases fl with
    | rt x => cases h3; exact fun G' H' v g' w' r' => h5 G' H' v g' w' r'
    | nx => cases h3; exact fun G' H' σ' g' ⟨F', l', x', _⟩ => h5 G' H' .non g' (x'.w.lessF l') (ResR.fz rfl)
    | bk => cases h3
    | ct => cases h3
end
section
variable {X : Cx} {cm : CM} {pos : Pos} {a : Expr} {as : List Expr}
def qNil : SF := fun e => some ([], e.S)
def qCons (f : FE) (g : SF) : SF := fun e => (f e).bind fun r => (g (e.st r.2)).map fun q => (some r.1.d :: q.1, q.2)
def qSpr (i : Nat) (g : SF) : SF := fun e => match e.cs[i]? with
  | some .spr => (g e).map fun q => (none :: q.1, q.2)
  | _ => none
theorem jq_nil : JQ X cm [] qNil := ⟨_, pa_nil, fun lk sp G F H σ e ds S' x hf Q k => by cases hf; exact k G H [] Le.rfl x.w rfl⟩
theorem jq_cons {f : FE} {g : SF} (h1 : JE X cm a f) (h2 : JQ X cm as g) (hs : starEach (a :: as) X.env = (false, eval a X.env) :: starEach as X.env := by rfl) : JQ X cm (a :: as) (qCons f g) := by
  obtain ⟨t, p, q⟩ := h1.ex
  obtain ⟨t', p', q'⟩ := h2
  refine ⟨_, pa_cons p p' hs, fun lk sp G F H σ e ds S' x hf Q k => ?_⟩
  obtain ⟨⟨d, S1⟩, z1, hf⟩ := Option.bind_eq_some_iff.mp hf
  obtain ⟨⟨es, S2⟩, z2, hf⟩ := Option.map_eq_some_iff.mp hf
  cases hf
  refine q lk sp G F H σ e d S1 x z1 _ fun G1 H1 v g1 w1 r1 => ?_
  obtain ⟨G1', g1', w1', r1'⟩ := r1.freeze w1
  refine q' lk sp G1' F H1 σ _ es S2 (x.next (g1.trans g1') Le.rfl w1') z2 _ fun G2 H2 vs g2 w2 r2 => ?_
  exact k G2 H2 _ ((g1.trans g1').trans g2) w2 ⟨v, vs, rfl, r1'.mono g2 _ _, r2⟩
theorem jq_spr (i : Nat) {x : Str} {p1 : Pos} {g : SF} (h2 : JQ X cm as g) (hN : X.N[i]? = some x := by rfl) (hv : Vis X.env.scope x := by first | exact Or.inl rfl | exact Or.inr (Or.inl rfl) | exact Or.inr (Or.inr rfl)) (hd : (x == ("__debug__" : Str)) = false := by decide)
    (hcd : (x == ("__classdict__" : Str)) = false := by decide) (hs : starEach (.Name x p1 :: as) X.env = (false, eval (.Name x p1) X.env) :: starEach as X.env := by rfl) : JQ X cm (.Name x p1 :: as) (qSpr i g) := by
  obtain ⟨t', p', q'⟩ := h2
  refine ⟨_, pa_cons (pe_var hN hv hd hcd) p' hs, fun lk sp G F H σ e ds S' x hf Q k => ?_⟩
  unfold qSpr at hf
  split at hf
  · rename_i hc
    obtain ⟨⟨es, S2⟩, z2, hf⟩ := Option.map_eq_some_iff.mp hf
    cases hf
    obtain ⟨o, h1, h2⟩ := x.c i _ hc
    obtain rfl : o = some (.ref sp) := h2
    refine ⟨.ref sp, h1, ?_⟩
    exact q' lk sp G F H σ e es _ x z2 _ fun G2 H2 vs g2 w2 r2 => k G2 H2 _ g2 w2 ⟨vs, rfl, r2⟩
  · cases hf
/-- spring[k] -/
def Spr.at (s : Spr) : Int → Option Int
  | 0 => some s.a
  | 1 => some s.b
  | 2 => some s.c
  | _ => none
def Spr.to (s : Spr) (v : Int) : Int → Option Spr
  | 0 => some ⟨v, s.b, s.c⟩
  | 1 => some ⟨s.a, v, s.c⟩
  | 2 => some ⟨s.a, s.b, v⟩
  | _ => none
def fSpr (i : Nat) (k : Int) : FE := fun e => match e.cs[i]?, e.S with
  | some .spr, some s => (s.at k).map fun v => (fz (.int v), some s)
  | _, _ => none
theorem j_spr (i : Nat) {x : Str} {k : Int} {p1 p2 : Pos} {kk} (hN : X.N[i]? = some x := by rfl) (hv : Vis X.env.scope x := by first | exact Or.inl rfl | exact Or.inr (Or.inl rfl) | exact Or.inr (Or.inr rfl)) (hd : (x == ("__debug__" : Str)) = false := by decide)
    (hcd : (x == ("__classdict__" : Str)) = false := by decide) (hs : PlainIx (.Constant (.int k) kk p2) := by exact fun _ _ => rfl) : JE X cm (.Subscript (.Name x p1) (.Constant (.int k) kk p2) pos) (fSpr i k) :=
  .of ⟨_, pe_ix ix_list (pe_var hN hv hd hcd) pe_int hs, fun lk sp G F H σ e r S' x hf Q q => by
    unfold fSpr at hf
    split at hf
    · rename_i s hc hS
      obtain ⟨v, h1, hf⟩ := Option.map_eq_some_iff.mp hf
      cases hf
      obtain ⟨o, h2, h3⟩ := x.c i _ hc
      obtain rfl : o = some (.ref sp) := h3
      obtain ⟨h4, _⟩ := x.w.sp s hS
      have w := x.w
      rw [hS] at w
      refine ⟨.ref sp, h2, sp, [.int s.a, .int s.b, .int s.c], k, .int v, rfl, rfl, SqL.of h4, ?_, q G H _ Le.rfl w (ResR.fz rfl)⟩
      unfold Spr.at at h1
      split at h1 <;> first | (cases h1; rfl) | cases h1
    · cases hf⟩
theorem WR.spr {lk : Addr → Option Obj} {sp : Addr} {G F H : Hp} {s : Spr} (w : WR lk sp G F H (some s)) (s' : Spr) : WR lk sp G F (upd H sp s'.ho) (some s') := by
  obtain ⟨a, b, c⟩ := w.sp s rfl
  exact ⟨fun q u e => by rw [upd_ne (ne_of_none e b)]; exact w.gh q u e, fun q u e => by rw [upd_ne (ne_of_none e c)]; exact w.fh q u e, w.fg, w.lg, (fun t e => by cases e; exact ⟨upd_same, b, c⟩), w.ft⟩
/-- spring[k] = v -/
def sSpr (i : Nat) (k : Int) (fv : FE) : FS := fun e => (fv e).bind fun v => match e.cs[i]?, v.2, v.1.d with
  | some .spr, some s, .int a => (s.to a k).map fun s' => (.nx, e.st (some s'))
  | _, _, _ => none
theorem js_spr {ev : Expr} {fv : FE} {p1 p2 p3 : Pos} {k : Int} {kk} (i : Nat) {x : Str} (he : JE X cm ev fv)
    (hN : X.N[i]? = some x := by rfl) (hv : Vis X.env.scope x := by first | exact Or.inl rfl | exact Or.inr (Or.inl rfl) | exact Or.inr (Or.inr rfl)) (hd : (x == ("__debug__" : Str)) = false := by decide)
    (hcd : (x == ("__classdict__" : Str)) = false := by decide)
    (ha : ∀ v, assign (.Subscript (.Name x p1) (.Constant (.int k) kk p3) p2) X.env v = (do let ov ← holding [v] (eval (.Name x p1) X.env); let iv ← holding [v, ov] (eval (.Constant (.int k) kk p3) X.env); standAt p2; holding [v, ov, iv] (setItem ov iv v); release [v, ov, iv] []) := by intro _; rfl)
    (hs : swapsWithSole [.Subscript (.Name x p1) (.Constant (.int k) kk p3) p2] ev pos.line X.env = pure false := by rfl) (hw : swappedStores [.Subscript (.Name x p1) (.Constant (.int k) kk p3) p2] ev X.env = pure none := by rfl) (h1 : (assignEach [.Subscript (.Name x p1) (.Constant (.int k) kk p3) p2] X.env).map (·.2) = [assign (.Subscript (.Name x p1) (.Constant (.int k) kk p3) p2) X.env] := by rfl) :
    JS X cm (.Assign [.Subscript (.Name x p1) (.Constant (.int k) kk p3) p2] ev pos) (sSpr i k fv) := by
  obtain ⟨tv, v1, v2⟩ := he.ex
  refine .of ⟨_, ps_asg v1 (pg_sub (pe_var hN hv hd hcd) pe_int set_list ha) hs hw h1, fun lk sp G F0 H σ e fl e' x hf D q => ?_⟩
  obtain ⟨⟨r, S1⟩, z1, hf⟩ := Option.bind_eq_some_iff.mp hf
  obtain ⟨F, l, x, y⟩ := x
  split at hf
  · rename_i s a hc hS hd
    obtain ⟨s', h2, hf⟩ := Option.map_eq_some_iff.mp hf
    cases hf
    obtain ⟨o, h3, h4⟩ := x.c i _ hc
    obtain rfl : o = some (.ref sp) := h4
    refine v2 lk sp G F H σ e r S1 x z1 _ fun G1 H1 v g1 w1 r1 => ?_
    subst hS
    rw [r1.int hd]
    obtain ⟨h5, _⟩ := w1.sp s rfl
    have fin := q G1 _ σ g1 (SR.next l x y g1 (w1.spr s'))
    unfold Spr.to at h2
    split at h2
    · cases h2; exact ⟨.ref sp, h3, sp, _, 0, 0, rfl, rfl, h5, rfl, fin⟩
    · cases h2; exact ⟨.ref sp, h3, sp, _, 1, 1, rfl, rfl, h5, rfl, fin⟩
    · cases h2; exact ⟨.ref sp, h3, sp, _, 2, 2, rfl, rfl, h5, rfl, fin⟩
    · cases h2
  · cases hf
/-- a new spring, for the rest of a block -/
def noSpr : Cell → Bool
  | .spr => false
  | _ => true
def sScope (i : Nat) (f : FE) (g : FS) : FS := fun e => (f e).bind fun r => match r.1.own, r.1.d, r.2 with
  | true, .lst [.int a, .int b, .int c], none => if e.cs.all noSpr = true ∧ i < e.cs.length then (g ((e.st (some ⟨a, b, c⟩)).put i .spr)).bind fun q => if ((q.2.put i .no).cs.all noSpr) = true then some (q.1, (q.2.st none).put i .no) else none else none
  | _, _, _ => none
theorem CellR.less {A : Addr → Prop} {sp sp' : Addr} {G F : Hp} {o : Option V} {c : Cell} (k : CellR cm sp G F o c) (h : noSpr c = true) (nt : ∀ q, Ft F o c q → ¬ A q) : CellR cm sp' G (mvF A F) o c := by
  cases c with
  | no => trivial
  | frz d' => exact k
  | own d' =>
    obtain ⟨p, u, a, b, r⟩ := k
    exact ⟨p, u, a, by rw [mvF_out (nt p a)]; exact b, r⟩
  | own2 ds =>
    obtain ⟨p, vs, a, b, n, r⟩ := k
    exact ⟨p, vs, a, by rw [mvF_out (nt p (.inl a))]; exact b, n, r.out Le.rfl fun k q m => mvF_out (nt q (.inr ⟨p, vs, k, a, b, m⟩))⟩
  | spr => cases h
  | raw v => exact k
theorem CellR.resp {sp sp' : Addr} {G F : Hp} {o : Option V} {c : Cell} (k : CellR cm sp G F o c) (h : noSpr c = true) : CellR cm sp' G F o c := by
  cases c with
  | spr => cases h
  | _ => exact k
theorem Ft.less {A : Addr → Prop} {F : Hp} {o : Option V} {c : Cell} {q : Addr} (f : Ft (mvF A F) o c q) : Ft F o c q := by
  cases c with
  | own2 ds =>
    rcases f with f | ⟨p, vs, k, a, b, m⟩
    · exact .inl f
    · exact .inr ⟨p, vs, k, a, mvF_le _ _ b, m⟩
  | _ => exact f
theorem all_get {cs : List Cell} {p : Cell → Bool} (h : cs.all p = true) {i : Nat} {c : Cell} (e : cs[i]? = some c) : p c = true := List.all_eq_true.mp h c (List.mem_of_getElem? e)
/-- the new spring's world -/
theorem SR.spring {lk : Addr → Option Obj} {sp : Addr} {G F0 H : Hp} {σ : St} {e : En} {i : Nat} {a b c : Int} (x : SR cm lk sp G F0 H σ e) (hS : e.S = none) (hi : e.cs[i]? = some (.own (.lst [.int a, .int b, .int c]))) (hn : e.cs.all noSpr = true) :
    ∃ p, σ[i]? = some (some (.ref p)) ∧ SR cm lk p G F0 H σ ((e.st (some ⟨a, b, c⟩)).put i .spr) := by
  obtain ⟨F, l, x, y⟩ := x
  obtain ⟨o, h1, p, u, rfl, h3, vs, rfl, h4⟩ := x.c i _ hi
  obtain ⟨v1, _, rfl, e1, v2, _, rfl, e2, v3, _, rfl, e3, rfl⟩ := h4
  cases (show v1 = V.int a from e1)
  cases (show v2 = V.int b from e2)
  cases (show v3 = V.int c from e3)
  have f0 : F0 p = none := y i _ _ p hi h1 rfl
  have nt : ∀ (j : Nat) c o, j ≠ i → e.cs[j]? = some c → σ[j]? = some o → ∀ q, Ft F o c q → ¬ (q = p) := fun j c o hj a b q f z => by
    subst z
    exact x.s j i c _ o _ q hj a hi b h1 f rfl
  refine ⟨p, h1, mvF (fun q => q = p) F, fun q u h => ?_, ⟨⟨x.w.gh, fun q u h => x.w.fh q u (mvF_le q u h), fun q u h => x.w.fg q u (mvF_le q u h), x.w.lg, fun s h => ?_, fun q xs h => x.w.ft q xs (mvF_le q _ h)⟩, fun j c1 q => ?_, fun j k c1 c2 o1 o2 q hjk a1 a2 b1 b2 f1 f2 => ?_, x.b⟩, fun j c1 o q a1 b1 f => ?_⟩
  · have hq : ¬ (q = p) := fun z => by rw [z, f0] at h; cases h
    rw [mvF_out (A := fun q => q = p) hq]; exact l q u h
  · have h : some _ = some s := h
    cases h
    exact ⟨x.w.fh p _ h3, x.w.fg p _ h3, mvF_in rfl⟩
  · by_cases hj : j = i
    · subst hj
      obtain ⟨rfl, _⟩ := putn q
      exact ⟨_, h1, rfl⟩
    · have q' := putc hj q
      obtain ⟨o, k1, k2⟩ := x.c j c1 q'
      exact ⟨o, k1, k2.less (all_get hn q') (nt j c1 o hj q' k1)⟩
  · by_cases hj : j = i
    · subst hj
      obtain ⟨rfl, _⟩ := putn a1
      exact f1
    · by_cases hk : k = i
      · subst hk
        obtain ⟨rfl, _⟩ := putn a2
        exact f2
      · exact x.s j k c1 c2 o1 o2 q hjk (putc hj a1) (putc hk a2) b1 b2 f1.less f2.less
  · by_cases hj : j = i
    · subst hj
      obtain ⟨rfl, _⟩ := putn a1
      exact f.elim
    · exact y j c1 o q (putc hj a1) b1 f.less
theorem SR.unspring {lk : Addr → Option Obj} {sp sp' : Addr} {G F0 H : Hp} {σ : St} {e : En} {i : Nat} (x : SR cm lk sp G F0 H σ e) (hn : (e.put i .no).cs.all noSpr = true) : SR cm lk sp' G F0 H σ ((e.st none).put i .no) := by
  obtain ⟨F, l, x, y⟩ := x
  refine ⟨F, l, ⟨⟨x.w.gh, x.w.fh, x.w.fg, x.w.lg, (fun s h => nomatch h), x.w.ft⟩, fun j c1 q => ?_, x.s.no, x.b⟩, y.no⟩
  obtain ⟨o, k1, k2⟩ := x.c.no j c1 q
  exact ⟨o, k1, k2.resp (all_get hn q)⟩
theorem jb_scope {s : Stmt} {ss : List Stmt} {i : Nat} {f : FE} {g : FS} (h1 : JS X cm s (sSet i f)) (h2 : JB X cm ss g) : JB X cm (s :: ss) (sScope i f g) := by
  obtain ⟨t, p, q⟩ := h1.ex
  obtain ⟨t', p', q'⟩ := h2.ex
  refine .of ⟨_, pss_cons p p', fun lk sp G F0 H σ e fl e' x hf D k => ?_⟩
  unfold sScope at hf
  obtain ⟨⟨r, S1⟩, z1, hf⟩ := Option.bind_eq_some_iff.mp hf
  split at hf
  · rename_i a b c ho hd hS
    have hS : S1 = none := hS
    subst hS
    split at hf
    · rename_i hnn
      obtain ⟨hn, hlen⟩ := hnn
      obtain ⟨⟨fl2, e2⟩, z2, hf⟩ := Option.bind_eq_some_iff.mp hf
      split at hf
      · rename_i hn2
        cases hf
        refine q lk sp G F0 H σ e .nx ((e.st none).put i r.cell) x (by unfold sSet; rw [z1]; rfl) _ fun G1 H1 σ1 g1 x1 => ?_
        have rc : r.cell = .own (.lst [.int a, .int b, .int c]) := by
          have ho : r.own = true := ho
          have hd : r.d = .lst [.int a, .int b, .int c] := hd
          unfold Rs.cell; rw [if_pos ho, hd]
        rw [rc] at x1
        obtain ⟨pp, hp, x2⟩ := x1.spring (a := a) (b := b) (c := c) rfl (by show (e.cs.set i _)[i]? = _; rw [List.getElem?_set_self hlen]) (by
          refine List.all_eq_true.mpr fun cc hc => ?_
          rcases List.mem_or_eq_of_mem_set hc with h | h
          · exact List.all_eq_true.mp hn cc h
          · rw [h]; rfl)
        have ee : (((e.st none).put i (.own (.lst [.int a, .int b, .int c]))).st (some ⟨a, b, c⟩)).put i .spr = (e.st (some ⟨a, b, c⟩)).put i .spr := by
          show En.mk _ _ _ = En.mk _ _ _
          congr 1
          show (e.cs.set i _).set i _ = e.cs.set i _
          rw [List.set_set]
        rw [ee] at x2
        refine q' lk pp G1 F0 H1 σ1 _ fl2 e2 x2 z2 _ ?_
        cases fl2 with
        | nx => exact fun G2 H2 σ2 g2 x3 => k G2 H2 σ2 (g1.trans g2) (x3.unspring hn2)
        | bk => exact fun G2 H2 σ2 g2 x3 => k G2 H2 σ2 (g1.trans g2) (x3.unspring hn2)
        | ct => exact fun G2 H2 σ2 g2 x3 => k G2 H2 σ2 (g1.trans g2) (x3.unspring hn2)
        | rt r =>
          refine fun G2 H2 v g2 w2 r2 => k G2 H2 v (g1.trans g2) ⟨w2.gh, w2.fh, w2.fg, w2.lg, (fun s h => nomatch h), w2.ft⟩ ?_
          unfold ResR at r2 ⊢
          by_cases o : r.own = true
          · rw [if_pos o] at r2 ⊢
            obtain ⟨p, u, a, b, c, d, e, k, n⟩ := r2
            exact ⟨p, u, a, b, c, d, e, (fun s z => nomatch z), n⟩
          · rw [if_neg o] at r2 ⊢; exact r2
      · cases hf
    · cases hf
  · cases hf
end
end Al


set_option Elab.async false
set_option linter.all false
set_option maxRecDepth 100000
/-! Fields, paths, loops over dicts. -/
namespace Al
open PySem PySem.Spec PyProof.Rows L2
section
variable {X : Cx} {cm : CM} {a b : Expr} {pos : Pos}
/-! ### fields -/
def fldD (c : Nat) (f : Str) : D → Option D
  | .ins k fs => if k = c then fs.lookup f else none
  | _ => none
theorem fldD_inv {c : Nat} {f : Str} {d d' : D} (h : fldD c f d = some d') : ∃ fs, d = .ins c fs ∧ fs.lookup f = some d' := by
  unfold fldD at h
  split at h
  · split at h
    · rename_i hk; exact ⟨_, by rw [hk], h⟩
    · cases h
  · cases h
def fFld (c : Nat) (f : Str) (p : PF) : FE := fun e => (p e).bind fun r => (fldD c f r.1).map fun d => (fz d, r.2)
theorem j_fld {c : Nat} {f : Str} {p : PF} (hc : Cls X.K (cm c)) (hn : NoAttr X.K (cm c) f) (h : JP X cm a p) (hb : attributeBase a f X.env (eval a X.env) = eval a X.env := by rfl) : JE X cm (.Attribute a f pos) (fFld c f p) := by
  obtain ⟨t, q1, q⟩ := h.ex
  refine .of ⟨_, pe_fld q1 hb, fun lk sp G F H σ e r S' x hf Q k => ?_⟩
  obtain ⟨⟨d, S1⟩, z1, hf⟩ := Option.bind_eq_some_iff.mp hf
  obtain ⟨d', z2, hf⟩ := Option.map_eq_some_iff.mp hf
  cases hf
  refine q lk sp G F H σ e d S1 x z1 _ fun G1 F1 H1 v g1 f1 w1 r1 => ?_
  obtain ⟨fs, rfl, hl⟩ := fldD_inv z2
  obtain ⟨p, dx, vs, rfl, hp, rf⟩ := r1.ins w1
  obtain ⟨v', h1, h2⟩ := rf.get hl
  exact ⟨p, _, dx, vs, v', rfl, hp, hc, hn, h1, k G1 H1 v' g1 (w1.lessF f1) (ResR.fz h2)⟩
/-! ### paths: what is read is the same in every world -/
abbrev VF := En → Option D
def VOk (cm : CM) (t : TE) (g : VF) : Prop := ∀ sp G F σ e d, CellsR cm sp G F σ e.cs → g e = some d → ∃ v, Rep cm G d v ∧ ∀ lk H S, WR lk sp G F H S → ∀ Q : VK, Q v H → t σ H Q
def JV (X : Cx) (cm : CM) (a : Expr) (g : VF) : Prop := ∃ t, PE X a t ∧ VOk cm t g
def vVar (i : Nat) : VF := fun e => match e.cs[i]? with
  | some (.frz d) => some d
  | _ => none
theorem v_var (i : Nat) {x : Str} (hN : X.N[i]? = some x := by rfl) (hv : Vis X.env.scope x := by first | exact Or.inl rfl | exact Or.inr (Or.inl rfl) | exact Or.inr (Or.inr rfl)) (hd : (x == ("__debug__" : Str)) = false := by decide)
    (hcd : (x == ("__classdict__" : Str)) = false := by decide) : JV X cm (.Name x pos) (vVar i) := ⟨tVar i, pe_var hN hv hd hcd, fun sp G F σ e d c h => by
  unfold vVar at h
  split at h
  · rename_i d' hd
    cases h
    obtain ⟨o, h1, v, rfl, h3⟩ := c i _ hd
    exact ⟨v, h3, fun lk H S w Q q => ⟨v, h1, q⟩⟩
  · cases h⟩
def vFld (c : Nat) (f : Str) (g : VF) : VF := fun e => (g e).bind (fldD c f)
theorem v_fld {c : Nat} {f : Str} {g : VF} (hc : Cls X.K (cm c)) (hn : NoAttr X.K (cm c) f) (h : JV X cm a g) (hb : attributeBase a f X.env (eval a X.env) = eval a X.env := by rfl) : JV X cm (.Attribute a f pos) (vFld c f g) := by
  obtain ⟨t, p, q⟩ := h
  refine ⟨_, pe_fld p hb, fun sp G F σ e d c h => ?_⟩
  obtain ⟨d', z1, z2⟩ := Option.bind_eq_some_iff.mp h
  obtain ⟨v, r, k⟩ := q sp G F σ e d' c z1
  obtain ⟨fs, rfl, hl⟩ := fldD_inv z2
  obtain ⟨p, u, rfl, hp, dx, vs, rfl, rf⟩ := r
  obtain ⟨v', h1, h2⟩ := rf.get hl
  exact ⟨v', h2, fun lk H S w Q q => k lk H S w _ ⟨p, _, dx, vs, v', rfl, w.pl hp (fun z => z), hc, hn, h1, q⟩⟩
def vGet (g k : VF) : VF := fun e => (g e).bind fun d => (k e).bind fun k => (lookD d k).bind id
theorem v_get {g k : VF} (hu : X.A.units + 1 < cLine) (ha : JV X cm a g) (hb : JV X cm b k) (hs : NoSl b := by exact fun _ _ => rfl) : JV X cm (.Subscript a b pos) (vGet g k) := by
  obtain ⟨t, p, q⟩ := ha
  obtain ⟨t', p', q'⟩ := hb
  refine ⟨_, pe_dget hu p p' hs, fun sp G F σ e d c h => ?_⟩
  obtain ⟨d1, z1, h⟩ := Option.bind_eq_some_iff.mp h
  obtain ⟨d2, z2, h⟩ := Option.bind_eq_some_iff.mp h
  obtain ⟨o, z3, h⟩ := Option.bind_eq_some_iff.mp h
  have h : o = some d := h
  subst h
  obtain ⟨v1, r1, k1⟩ := q sp G F σ e d1 c z1
  obtain ⟨v2, r2, k2⟩ := q' sp G F σ e d2 c z2
  unfold lookD at z3
  split at z3
  · obtain ⟨kk, h1, h2⟩ := Option.map_eq_some_iff.mp z3
    obtain ⟨p, u, rfl, hp, vs, rfl, rr⟩ := r1
    obtain ⟨v, g1, g2⟩ := (rr.get (k := kk)).1 d h2
    exact ⟨v, g2, fun lk H S w Q q => k1 lk H S w _ (k2 lk H S w _ ⟨p, v, rfl, .inl ⟨vs, kk, w.rd hp, (RepT.key (F := F) (.inl r2) h1), g1.symm⟩, q⟩)⟩
  · obtain ⟨kk, h1, h2⟩ := Option.map_eq_some_iff.mp z3
    obtain ⟨p, u, rfl, hp, vs, rfl, rr⟩ := r1
    obtain ⟨v, g1, g2⟩ := (rr.get (k := kk)).1 d h2
    obtain ⟨p2, u2, rfl, hp2, us, rfl, rs⟩ := r2
    have e2 := rs.keys h1
    subst e2
    exact ⟨v, g2, fun lk H S w Q q => k1 lk H S w _ (k2 lk H S w _ ⟨p, v, rfl, .inr ⟨vs, kk, p2, w.rd hp, rfl, w.pl hp2 (fun z => z), g1.symm⟩, q⟩)⟩
  · cases z3
def fV (g : VF) : FE := fun e => (g e).map fun d => (fz d, e.S)
theorem jv {g : VF} (h : JV X cm a g) : JE X cm a (fV g) := by
  obtain ⟨t, p, q⟩ := h
  refine .of ⟨t, p, fun lk sp G F H σ e r S' x hf Q k => ?_⟩
  obtain ⟨d, z1, hf⟩ := Option.map_eq_some_iff.mp hf
  cases hf
  obtain ⟨v, r, k1⟩ := q sp G F σ e d x.c z1
  exact k1 lk H e.S x.w Q (k G H v Le.rfl x.w (ResR.fz r))
end
/-! ### locks -/
def lkS (lk : Addr → Option Obj) (d : Addr) (o : Obj) : Addr → Option Obj := fun q => if q = d then some o else lk q
section
variable {cm : CM} {lk : Addr → Option Obj} {sp : Addr} {G G' F0 F H H' : Hp} {σ : St} {e : En} {S : Option Spr} {d : Addr} {u : HO} {o : Obj}
theorem lkS_same : lkS lk d o d = some o := by unfold lkS; rw [if_pos rfl]
theorem lkS_ne {q : Addr} (h : q ≠ d) : lkS lk d o q = lk q := by unfold lkS; rw [if_neg h]
theorem WR.lock (w : WR lk sp G F H S) (hd : G d = some u) (hl : Lockable u) : WR (lkS lk d o) sp G F (upd H d (.frz o u)) S :=
  ⟨fun q v e => by
    by_cases z : q = d
    · subst z
      rw [hd] at e; cases e
      unfold lkd
      rw [lkS_same, upd_same]
    · rw [upd_ne z]
      have := w.gh q v e
      unfold lkd at this ⊢
      rw [lkS_ne z]; exact this,
   fun q v e => by
    have z : q ≠ d := fun z => by rw [z] at e; rw [w.fg d v e] at hd; cases hd
    rw [upd_ne z]; exact w.fh q v e,
   w.fg,
   fun q o' e => by
    by_cases z : q = d
    · subst z; exact ⟨u, hd, hl⟩
    · rw [lkS_ne z] at e; exact w.lg q o' e,
   fun s e => by
    obtain ⟨a, b, c⟩ := w.sp s e
    have z : sp ≠ d := fun z => by rw [z, hd] at b; cases b
    exact ⟨by rw [upd_ne z]; exact a, b, c⟩,
   w.ft⟩
theorem WR.unlock (w : WR (lkS lk d o) sp G F H S) (hd : G d = some u) (hn : lk d = none) : H d = some (.frz o u) ∧ WR lk sp G F (upd H d u) S := by
  have h1 := w.gh d u hd
  unfold lkd at h1
  rw [lkS_same] at h1
  refine ⟨h1, ⟨fun q v e => ?_, fun q v e => ?_, w.fg, fun q o' e => ?_, fun s e => ?_, w.ft⟩⟩
  · by_cases z : q = d
    · subst z
      rw [hd] at e; cases e
      unfold lkd
      rw [hn, upd_same]
    · rw [upd_ne z]
      have := w.gh q v e
      unfold lkd at this ⊢
      rw [lkS_ne z] at this; exact this
  · have z : q ≠ d := fun z => by rw [z] at e; rw [w.fg d v e] at hd; cases hd
    rw [upd_ne z]; exact w.fh q v e
  · have z : q ≠ d := fun z => by rw [z, hn] at e; cases e
    exact w.lg q o' (by rw [lkS_ne z]; exact e)
  · obtain ⟨a, b, c⟩ := w.sp s e
    have z : sp ≠ d := fun z => by rw [z, hd] at b; cases b
    exact ⟨by rw [upd_ne z]; exact a, b, c⟩
theorem SR.lock (x : SR cm lk sp G F0 H σ e) (hd : G d = some u) (hl : Lockable u) : SR cm (lkS lk d o) sp G F0 (upd H d (.frz o u)) σ e := by
  obtain ⟨F, l, x, y⟩ := x
  exact ⟨F, l, ⟨x.w.lock hd hl, x.c, x.s, x.b⟩, y⟩
theorem SR.unlock (x : SR cm (lkS lk d o) sp G F0 H σ e) (hd : G d = some u) (hn : lk d = none) : H d = some (.frz o u) ∧ SR cm lk sp G F0 (upd H d u) σ e := by
  obtain ⟨F, l, x, y⟩ := x
  obtain ⟨a, b⟩ := x.w.unlock hd hn
  exact ⟨a, F, l, ⟨b, x.c, x.s, x.b⟩, y⟩
theorem ResR.unlock {v : V} {r : Rs} (h : ResR cm sp S G F H v r) (hd : G d = some u) : ResR cm sp S G F (upd H d u) v r := by
  unfold ResR at h ⊢
  by_cases o : r.own = true
  · rw [if_pos o] at h ⊢
    obtain ⟨p, u', a, b, c, e, k⟩ := h
    have z : p ≠ d := fun z => by rw [z, hd] at e; cases e
    exact ⟨p, u', a, by rw [upd_ne z]; exact b, c, e, k⟩
  · rw [if_neg o] at h ⊢; exact h
theorem Lockable.mut (h : Lockable u) : Mut (some u) := by
  cases u with
  | dK _ => trivial
  | dT _ => trivial
  | _ => cases h
/-- ends within a lock -/
def lkEnds (D : Ends) (d : Addr) (o : Obj) (u : HO) : Ends := ⟨fun σ' H' => H' d = some (.frz o u) ∧ D.nx σ' (upd H' d u), fun v H' => H' d = some (.frz o u) ∧ D.rt v (upd H' d u), fun σ' H' => H' d = some (.frz o u) ∧ D.bk σ' (upd H' d u), fun σ' H' => H' d = some (.frz o u) ∧ D.ct σ' (upd H' d u)⟩
theorem Post.lock {D : Ends} (hd : G d = some u) (hn : lk d = none) : ∀ {fl : Fl} {e : En}, Post cm lk sp G F0 D fl e → Post cm (lkS lk d o) sp G F0 (lkEnds D d o u) fl e
  | .nx, _, h => fun G' H' σ' g x => let ⟨a, b⟩ := x.unlock (g _ _ hd) hn; ⟨a, h G' _ σ' g b⟩
  | .bk, _, h => fun G' H' σ' g x => let ⟨a, b⟩ := x.unlock (g _ _ hd) hn; ⟨a, h G' _ σ' g b⟩
  | .ct, _, h => fun G' H' σ' g x => let ⟨a, b⟩ := x.unlock (g _ _ hd) hn; ⟨a, h G' _ σ' g b⟩
  | .rt r, _, h => fun G' H' v g w rr => let ⟨a, b⟩ := w.unlock (g _ _ hd) hn; ⟨a, h G' _ v g b (rr.unlock (g _ _ hd))⟩
end
/-! ### loops over dicts -/
abbrev DF := En → Option (List D)
def DOk (cm : CM) (t : TI) (f : DF) : Prop := ∀ sp G F σ e ds, CellsR cm sp G F σ e.cs → f e = some ds → ∃ d u, G d = some u ∧ Lockable u ∧ ∀ lk H S od, WR lk sp G F H S → lk d = some od → ∀ R : It → Hp → Prop,
  (∀ G' H' J, Le G G' → WR lk sp G' F H' S → Foll cm lk sp G' ds J → R J H') → t σ H R
def JD (X : Cx) (cm : CM) (tg a : Expr) (f : DF) : Prop := ∃ t, PI X tg a t ∧ DOk cm t f
theorem PS_or {X : Cx} {a : Stmt} {t t' : TS} (h : PS X a t) (h' : PS X a t') : PS X a (fun D σ H => t D σ H ∨ t' D σ H) := ⟨fun pins s σ H D I k => k.elim (h.run pins s σ H D I) (h'.run pins s σ H D I)⟩
def sForD (s : DF) (T : Tg) (b : FS) : FS := fun e => (s e).bind fun ds => forF T b ds e
theorem js_forD {X : Cx} {cm : CM} {tg iter : Expr} {body : List Stmt} {pos : Pos} {s : DF} {T : Tg} {b : FS} (hp : PassesOwn (model X.prog X.w) X.A X.env X.xe) (hc : X.calm = true) (hi : JD X cm tg iter s) (hg : JG X tg T) (hb : JB X cm body b)
    (hs : ∀ x, foldedSetIterable iter X.env x = pure x := by intro _; rfl) : JS X cm (.For tg iter body [] pos) (sForD s T b) := by
  obtain ⟨t, p, q⟩ := hi
  obtain ⟨t', p', q'⟩ := hb.ex
  have ps := ps_for (pos := pos) hp hc p hg p' hs
  refine .of ⟨_, PS_or ps (ps_lock ps), fun lk sp G F0 H σ e fl e' x hf D k => ?_⟩
  obtain ⟨ds, z1, hf⟩ := Option.bind_eq_some_iff.mp hf
  have x0 := x
  obtain ⟨F, l, x, y⟩ := x
  obtain ⟨d, u, hd, hl, r⟩ := q sp G F σ e ds x.c z1
  cases hk : lk d with
  | some od => exact .inl (for_core q' l x y (fun R k => r lk H e.S od x.w hk R k) hf k)
  | none =>
    have hu : H d = some u := by
      have := x.w.gh d u hd
      unfold lkd at this
      rw [hk] at this; exact this
    refine .inr ⟨d, u, hu, hl.mut, fun od => ?_⟩
    have xl : ER cm (lkS lk d od) sp G F (upd H d (.frz od u)) σ e := ⟨x.w.lock hd hl, x.c, x.s, x.b⟩
    exact for_core q' l xl y (fun R k => r (lkS lk d od) _ e.S od xl.w lkS_same R k) hf (k.lock hd hk)
def fCompD (s : DF) (T : Tg) (vs : List Nat) (c : TF) (f : FE) : FE := fun e => (s e).bind fun ds => if ds.length ≤ 100000 ∧ ∀ k ∈ T.slots, k ∈ vs then (compF T c f (e.wipe vs) ds e.S).map fun q => (nw (.lst q.1), q.2) else none
theorem compD_ok {K : PySem.W.Frag} {cm : CM} {wi : TI} {s : DF} {T : Tg} {vs : List Nat} {c : TF} {f : FE} (hi : DOk cm wi s) : EOk cm (fun σ H Q => tLc wi (tgT K T) (tT cm c) (tE cm f) vs σ H Q ∨ tLockE (tLc wi (tgT K T) (tT cm c) (tE cm f) vs) σ H Q) (fCompD s T vs c f) := fun lk sp G F H σ e r S' x hf Q k => by
  obtain ⟨ds, z1, hf⟩ := Option.bind_eq_some_iff.mp hf
  split at hf
  · rename_i hc
    obtain ⟨hz, hvs⟩ := hc
    obtain ⟨⟨rs, S2⟩, z2, hf⟩ := Option.map_eq_some_iff.mp hf
    cases hf
    obtain ⟨d, u, hd, hl, rr⟩ := hi sp G F σ e ds x.c z1
    cases hk : lk d with
    | some od => exact .inl (comp_core x (fun R k => rr lk H e.S od x.w hk R k) hz hvs z2 k)
    | none =>
      have hu : H d = some u := by
        have := x.w.gh d u hd
        unfold lkd at this
        rw [hk] at this; exact this
      refine .inr ⟨d, u, hu, hl.mut, fun od => ?_⟩
      have xl : ER cm (lkS lk d od) sp G F (upd H d (.frz od u)) σ e := ⟨x.w.lock hd hl, x.c, x.s, x.b⟩
      exact comp_core xl (fun R k => rr (lkS lk d od) _ e.S od xl.w lkS_same R k) hz hvs z2 fun G' H' v g w r =>
        let ⟨a, b⟩ := w.unlock (g _ _ hd) hk
        ⟨a, k G' _ v g b (r.unlock (g _ _ hd))⟩
  · cases hf
section
variable {X : Cx} {cm : CM} {elt tg iter : Expr} {ifs : List Expr} {scope : Scope} {own : List (Str × Nat)} {pos : Pos} {s : DF} {T : Tg} {c : TF} {f : FE}
theorem j_lcD (own : List (Str × Nat)) (hc : X.calm = true) (hN : X.N.Nodup) (hi : JD X cm tg iter s) (ok : BlkOk X.N X.env.scope scope own) (hg : BlkE X scope fun Y => JG Y tg T) (ht : BlkE X scope fun Y => JTs Y cm ifs c) (he : BlkE X scope fun Y => JE Y cm elt f)
    (hs : ∀ x, foldedSetIterable iter X.env x = pure x := by intro _; rfl) : JE X cm (.ListComp elt [⟨tg, iter, ifs, 0⟩] scope pos) (fCompD s T (own.map (·.2)) c f) := by
  obtain ⟨t, p, q⟩ := hi
  have pe := pe_lc (pos := pos) (g := tgT X.K T) (tt := tT cm c) (te := tE cm f) hc hN p ok hg ht he hs
  exact .of ⟨_, PE_or pe (pe_lock pe), compD_ok q⟩
/-- keys -/
def keysD : D → Option (List D)
  | .dk ds => some (DK.keys ds)
  | .dt ds => some (ds.map fun p => .tup (DK.keys (p.1.map fun k => (k, .non))))
  | _ => none
def dKeys (g : VF) : DF := fun e => (g e).bind keysD
theorem RepK.keyAt {G : Hp} : ∀ {ds : List (Key × D)} {vs : List (Key × V)} {i : Nat} {k : Key} {v : V}, RepK cm G ds vs → vs[i]? = some (k, v) → ∃ d, ds[i]? = some (k, d) ∧ Rep cm G d v
  | [], _, _, _, _, r, h => by obtain rfl : _ = [] := r; simp at h
  | (k', d) :: ds, _, 0, k, v, ⟨v', t, e, a, b⟩, h => by subst e; simp at h; obtain ⟨rfl, rfl⟩ := h; exact ⟨d, rfl, a⟩
  | (k', d) :: ds, _, i + 1, k, v, ⟨v', t, e, a, b⟩, h => by subst e; exact RepK.keyAt (i := i) b (by simpa using h)
theorem RepD.keyAt {G : Hp} : ∀ {ds : List (List Key × D)} {vs : List (List Key × V)} {i : Nat} {k : List Key} {v : V}, RepD cm G ds vs → vs[i]? = some (k, v) → ∃ d, ds[i]? = some (k, d) ∧ Rep cm G d v
  | [], _, _, _, _, r, h => by obtain rfl : _ = [] := r; simp at h
  | (k', d) :: ds, _, 0, k, v, ⟨v', t, e, a, b⟩, h => by subst e; simp at h; obtain ⟨rfl, rfl⟩ := h; exact ⟨d, rfl, a⟩
  | (k', d) :: ds, _, i + 1, k, v, ⟨v', t, e, a, b⟩, h => by subst e; exact RepD.keyAt (i := i) b (by simpa using h)
theorem foll_keys {lk : Addr → Option Obj} {sp d : Addr} {G : Hp} {o : Obj} {vs : List (Key × V)} {ds : List (Key × D)} (hp : G d = some (.dK vs)) (hk : lk d = some o) (r : RepK cm G ds vs) : Foll cm lk sp G (DK.keys ds) (Itk d o vs) := fun G1 F1 H1 S1 i g w => by
  have hH : H1 d = some (.frz o (.dK vs)) := by
    have := w.gh d _ (g _ _ hp)
    unfold lkd at this
    rw [hk] at this; exact this
  have hl : (DK.keys ds).length = vs.length := by unfold DK.keys; rw [List.length_map, r.len]
  refine ⟨fun dd hd => ?_, fun hi => ⟨hH, by omega⟩⟩
  have hi : i < vs.length := by rw [← hl]; exact (List.getElem?_eq_some_iff.mp hd).1
  refine ⟨⟨hH, hi⟩, fun x H2 y => ?_⟩
  obtain ⟨rfl, k, v, h1, rfl⟩ := y
  obtain ⟨d', h2, _⟩ := r.keyAt h1
  unfold DK.keys at hd
  rw [List.getElem?_map, h2] at hd
  cases hd
  refine ⟨G1, Le.rfl, w, ?_⟩
  cases k with
  | inl i => exact rfl
  | inr s => exact rfl
theorem reps_keys {G : Hp} : ∀ (k : List Key), Reps cm G (DK.keys (k.map fun k => (k, D.non))) (k.map kV)
  | [] => rfl
  | .inl i :: ks => ⟨_, _, rfl, rfl, reps_keys ks⟩
  | .inr i :: ks => ⟨_, _, rfl, rfl, reps_keys ks⟩
theorem foll_keysT {lk : Addr → Option Obj} {sp d : Addr} {G : Hp} {o : Obj} {vs : List (List Key × V)} {ds : List (List Key × D)} (hp : G d = some (.dT vs)) (hk : lk d = some o) (r : RepD cm G ds vs) :
    Foll cm lk sp G (ds.map fun p => .tup (DK.keys (p.1.map fun k => (k, .non)))) (Itkt d o vs) := fun G1 F1 H1 S1 i g w => by
  have hH : H1 d = some (.frz o (.dT vs)) := by
    have := w.gh d _ (g _ _ hp)
    unfold lkd at this
    rw [hk] at this; exact this
  refine ⟨fun dd hd => ?_, fun hi => ⟨hH, by rw [r.len]; rw [List.length_map] at hi; exact hi⟩⟩
  have hi : i < vs.length := by rw [r.len]; have := (List.getElem?_eq_some_iff.mp hd).1; rwa [List.length_map] at this
  refine ⟨⟨hH, hi⟩, fun x H2 y => ?_⟩
  obtain ⟨rfl, k, v, q, h1, rfl, hq⟩ := y
  obtain ⟨d', h2, _⟩ := r.keyAt h1
  rw [List.getElem?_map, h2] at hd
  cases hd
  cases hg : G1 q with
  | none =>
    have hf : F1 q = none := by
      cases z : F1 q with
      | none => rfl
      | some u =>
        have := w.fh q u z
        rw [hq] at this; cases this
        exact absurd z (w.ft q _)
    have hs : ∀ s, S1 = some s → q ≠ sp := fun s e z => by
      have := (w.sp s e).1
      rw [← z, hq] at this
      cases this
    exact ⟨upd G1 q (.tup (k.map kV)), Le.upd hg, w.still hq hg hf hs, ObjR.rep (d := .tup _) upd_same ⟨_, rfl, reps_keys k⟩⟩
  | some u =>
    have := w.gh q u hg
    unfold lkd at this
    cases hlk : lk q with
    | none =>
      rw [hlk, hq] at this
      cases this
      exact ⟨G1, Le.rfl, w, ObjR.rep (d := .tup _) hg ⟨_, rfl, reps_keys k⟩⟩
    | some o' =>
      rw [hlk, hq] at this
      cases this
theorem jd_keys {a : Expr} {g : VF} (h : JV X cm a g) : JD X cm tg a (dKeys g) := by
  obtain ⟨t, p, q⟩ := h
  refine ⟨_, pi_keys p, fun sp G F σ e ds c h => ?_⟩
  obtain ⟨d, z1, z2⟩ := Option.bind_eq_some_iff.mp h
  obtain ⟨v, r, k⟩ := q sp G F σ e d c z1
  unfold keysD at z2
  split at z2
  · cases z2
    obtain ⟨p, u, rfl, hp, vs, rfl, rr⟩ := r
    refine ⟨p, _, hp, trivial, fun lk H S od w hl R kk => k lk H S w _ ⟨p, od, rfl, .inl ⟨vs, ?_, kk G H _ Le.rfl w (foll_keys hp hl rr)⟩⟩⟩
    have := w.gh p _ hp
    unfold lkd at this
    rw [hl] at this; exact this
  · cases z2
    obtain ⟨p, u, rfl, hp, vs, rfl, rr⟩ := r
    refine ⟨p, _, hp, trivial, fun lk H S od w hl R kk => k lk H S w _ ⟨p, od, rfl, .inr ⟨vs, ?_, kk G H _ Le.rfl w (foll_keysT hp hl rr)⟩⟩⟩
    have := w.gh p _ hp
    unfold lkd at this
    rw [hl] at this; exact this
  · cases z2
end
end Al


set_option Elab.async false
set_option linter.all false
set_option maxRecDepth 100000
/-! Instances walked; strings, enumerate, zip, items, values. -/
namespace Al
open PySem PySem.Spec PyProof.Rows L2
/-! ### iter(d), d a dict -/
def ItDO (it d : Addr) (n ep : Nat) : HO := .ext fun h => h.IsKeyIter it d 0 n ep
def rIterD (n : Nat) : List V → Hp → VK → Prop := fun xs H Q => ∃ (d : Addr) (od : Obj) (kvs : List (Key × V)), xs = [.ref d] ∧ H d = some (.frz od (.dK kvs)) ∧ ∀ it ep es, H it = Option.none → n ≤ it → od.data = .dict es ep → Q (.ref it) (upd H it (ItDO it d kvs.length ep))
def spIt (C : Addr) (fld : Str) (n : Nat) : Sp := fun vs H Q _ => ∃ (a dx : Addr) (fs : List (Str × V)) (d : Addr) (od : Obj) (kvs : List (Key × V)), vs = [.ref a] ∧ H a = some (.ins C dx fs) ∧ fs.lookup fld = some (.ref d) ∧ H d = some (.frz od (.dK kvs)) ∧
  ∀ it ep es, H it = Option.none → n ≤ it → od.data = .dict es ep → Q (.ref it) (upd H it (ItDO it d kvs.length ep))
/-- a def's promise that knows how large the heap is -/
structure FnN (P : Program) (w : World) (K : PySem.W.Frag) (mg : Str → Option Value) (base : Heap) (k : Nat) (f : Addr) (fd : FuncData) (ps : List Str) (sp : Nat → Sp) : Prop where
  len : ∀ n vs H Q E, sp n vs H Q E → vs.length = ps.length
  run : ∀ (A : Around) (outer : List Env) (s : Shared) (H : Hp) (args : Args) (us : List Value) (vs : List V) (Q : VK) (E : XK), Room k A → Env0 P w K mg base A outer s H → BindsTo s fd args (ps.zip us) → Vals vs us → sp s.heap.objs.size vs H Q E →
    codeAny (model P w) A (.call (.ref f) args) (CR CX0 outer P w H s Q E) s
theorem fn_ofN {P : Program} {w : World} {K : PySem.W.Frag} {mg : Str → Option Value} {base : Heap} {k : Nat} {f : Addr} {x qual : Str} {st : Stmt} {fd : FuncData} {N ps : List Str} {sp : Nat → Sp} (F : Fun K x qual st f fd) (S : FnScope N ps (defScope st))
    (len : ∀ n vs H Q E, sp n vs H Q E → vs.length = ps.length)
    (hbody : ∀ (cdv : Value) (A : Around) (outer : List Env) (s : Shared) (H : Hp) (vs : List V) (Q : VK) (E : XK), Room k (A.deeper (envOfC qual (defScope st) s.heap.objs.size f cdv)) → sp s.heap.objs.size vs H Q E →
      ∃ t, PSs (cxOf CX0 P w K mg base N qual (defScope st) f cdv A outer s H E).nox (defBody st) t ∧ t { nx := fun _ H' => Q .non H', rt := Q } (L2.start N vs) H) : FnN P w K mg base (k + 1) f fd ps sp := by
  obtain ⟨oc, od, kV, doc, pm, an, cdv, ct, osl, rfl, lk, hcd⟩ := F.ex
  refine ⟨len, fun A outer s H args us vs Q E hr e0 hb r hsp => ?_⟩
  have KX : K.In s.heap := e0.mod.kin.keeps fun b o e => (e0.bs b o e).1
  have hkind : ∀ y ∈ ps.zip us, (defScope st).names.lookup y.1 = some .local ∨ ((defScope st).names.lookup y.1 = some .cell ∧ ((cellsFrom (s.heap.objs.size + 1) (defScope st).names []).lookup y.1).isSome = true) := fun ⟨n, v⟩ hy => by
    rcases S.par n (List.of_mem_zip hy).1 with q | q
    · exact .inl q
    · exact .inr ⟨q, PySem.W.cellsFrom_some _ _ _ (.inl q)⟩
  refine codeAny_call_function hr.depth (KX _ _ lk) rfl S.co S.gen rfl (PySem.W.codeRec_of KX hcd) (hb _ _ _ _ (wpAny_newFunctionEnv_cells S.kind hkind fun env he s1 x => ?_))
  subst he
  refine ⟨(e0.mod.nolimit.keeps fun b o e => (e0.bs b o e).1).keeps x.toInCall.keep, codeAny_func ?_⟩
  obtain ⟨t, ht, hq⟩ := hbody cdv A outer s H vs Q E (hr.deeper _) hsp
  have I := inv_start (CX := CX0) (E := E) (qual := qual) S hr.hd e0 (len _ _ _ _ _ hsp) r x
  refine wpAny_mono (ht.nox.run [] s1 (L2.start N vs) H _ I hq) (fun fl s' hs => ?_) fun e s' hs => hs
  cases fl with
  | ret u => obtain ⟨v, σ', H', J, rv, q⟩ := hs; exact ⟨v, H', J.os, J.bare, J.base, J.hok, rv, q⟩
  | next => obtain ⟨σ', H', J, q⟩ := hs; exact ⟨.non, H', J.os, J.bare, J.base, J.hok, rfl, q⟩
  | brk => obtain ⟨_, _, _, q⟩ := hs; exact q.elim
  | cont => obtain ⟨_, _, _, q⟩ := hs; exact q.elim
section
variable {X : Cx}
theorem call_iterD : CallR X (.builtin "iter") (rIterD X.s_0.heap.objs.size) := by
  intro pins s σ H xs us Q I r h
  obtain ⟨d, od, kvs, rfl, hd, q⟩ := h
  obtain rfl := Vals.ref1 r
  obtain ⟨hs, hgd, hx, es, ep, vs, hdt, hsz, kv, hm⟩ := I.frzK hd
  refine Calls.call_function_entry (by decide +kernel) (by decide +kernel) PySem.W.kdk_entry_iter (PySem.W.kdk_args_iter _) ?_
  unfold Builtin.«iter»
  refine wpAny_bind (m := someArgs "iter" 1 2 _) (wpAny_of_eq (a := [Value.ref d]) (by first | rfl | kernel_rfl!) ?_)
  show wpAny _ _ (pyIter (.ref d) >>= _) _ _ _
  refine wpAny_bind (iter_keys hs hgd hx hdt ?_)
  refine wpAny_pure ⟨_, rfl, ?_⟩
  have st : Heap.IsKeyIter (s.heap.push { cls := .type "dict_keyiterator", data := .fields #[.ref d, .int 0 0, .int es.size 0, .int ep 0] }) s.heap.objs.size d 0 kvs.length ep := ⟨_, Heap.get?_push_size _ rfl, rfl, by rw [hsz]; rfl⟩
  have ok : ObjOk X.prog X.w (upd H s.heap.objs.size (ItDO s.heap.objs.size d kvs.length ep)) (s.heap.push { cls := .type "dict_keyiterator", data := .fields #[.ref d, .int 0 0, .int es.size 0, .int ep 0] }) s.heap.objs.size (ItDO s.heap.objs.size d kvs.length ep) :=
    ⟨st, ⟨_, Heap.get?_push_size _ rfl⟩, fun h1 h2 ⟨o, e, r⟩ k => ⟨o, k _ e, r⟩⟩
  exact ⟨.ref s.heap.objs.size, _, I.laid (t' := s.toks) (fun b u e => Heap.get?_push_of_some _ e) (Nat.le_refl _) ok, rfl, q _ ep es (I.hok.fresh (Nat.le_refl _)) I.sz hdt⟩
/-- for x in o, o of an own class with an __iter__ that is iter(self.f) -/
def iOwn (C : Addr) (fld : Str) (td : TE) : TI := fun σ H R => td σ H fun x H1 => ∃ (a dx : Addr) (fs : List (Str × V)) (d : Addr) (od : Obj) (kvs : List (Key × V)), x = .ref a ∧ H1 a = some (.ins C dx fs) ∧ fs.lookup fld = some (.ref d) ∧ H1 d = some (.frz od (.dK kvs)) ∧ R (Itk d od kvs) H1
theorem pi_own {tg e : Expr} {td : TE} {C f : Addr} {fd : FuncData} {ps : List Str} {fld : Str} {k : Nat} (hs : PySem.W.findIn X.K (.ref C) "__iter__" = some (some (.ref f))) (hf : PySem.W.isFn X.K (.ref f) = true)
    (F : FnN X.prog X.w X.K X.mg X.base k f fd ps (spIt C fld)) (hr : Room k X.A) (hb2 : L2.Binds X.K fd ps []) (he : PE X e td) : PI X tg e (iOwn C fld td) := by
  refine ⟨fun pins s σ H R I h => ?_⟩
  refine thn (he.run pins s σ H _ I h) fun u s1 ⟨x, H1, I1, rx, a, dx, fs, d, od, kvs, ex, ha, hl, hd, q⟩ => ?_
  subst ex
  obtain rfl : u = Value.ref a := rx
  obtain ⟨mA, J, _⟩ := ins_get I1.hok ha
  obtain ⟨odd, J, _⟩ := J.look
  obtain ⟨m, hF⟩ := I1.fr
  refine PySem.W.owit_iter hF I1.ok.mod.kin J hs hf ?_
  have r2 : Vals [V.ref a] [Value.ref a] := .cons rfl .nil
  have hsp : spIt C fld s1.heap.objs.size [.ref a] H1 (fun v H' => ∃ it ep es, H1 it = Option.none ∧ s1.heap.objs.size ≤ it ∧ od.data = .dict es ep ∧ v = .ref it ∧ H' = upd H1 it (ItDO it d kvs.length ep)) (fun _ _ _ => False) := ⟨a, dx, fs, d, od, kvs, rfl, ha, hl, hd, fun it ep es h1 h3 h2 => ⟨it, ep, es, h1, h3, h2, rfl, rfl⟩⟩
  have hlen := F.len _ _ _ _ _ hsp
  refine wpAny_call (codeAny_mono (F.run X.A X.stack s1 H1 ⟨[.ref a], []⟩ [.ref a] [.ref a] _ _ hr I1.env0 (by
    have := hb2 s1 [.ref a] I1.kIn (by simpa using hlen)
    simpa using this) r2 hsp) fun r s' hq => ?_)
  cases r with
  | error e => exact hq.elim
  | ok fl =>
    cases fl with
    | next => exact False.elim hq
    | brk => exact False.elim hq
    | cont => exact False.elim hq
    | ret u =>
      obtain ⟨v2, H2, I2, r2, it, ep2, es2, hn2, hge, hod2, rfl, rfl⟩ := I1.after (Q := fun v H' => ∃ it ep es, H1 it = Option.none ∧ s1.heap.objs.size ≤ it ∧ od.data = .dict es ep ∧ v = .ref it ∧ H' = upd H1 it (ItDO it d kvs.length ep)) hq
      obtain rfl : u = Value.ref it := r2
      have eI : upd H1 it (ItDO it d kvs.length ep2) it = some (ItDO it d kvs.length ep2) := upd_same
      have st : s'.heap.IsKeyIter it d 0 kvs.length ep2 := (I2.hok it _ eI).1
      have hT : s'.TypeIs (.ref it) "dict_keyiterator" := let ⟨o, e, c, _⟩ := st; ⟨o, e, c⟩
      have hge2 : X.s_0.heap.objs.size ≤ s1.heap.objs.size := I1.sz
      unfold PySem.W.OwitIt
      refine wpAny_specialOf (name := Str.ofString "__next__") hT PySem.F.slot_dict_keyiterator_next.lookup ?_
      have I3 := ItX.inv_drop I2 (φ := fun h => h.IsKeyIter it d 0 kvs.length ep2) eI
      refine ⟨it, [it], _, _, ItX.dropH (upd H1 it (ItDO it d kvs.length ep2)) it, rfl, I3, turn_keys it hod2, st, fun b hb => ?_, ?_⟩
      · have e : b = it := by simpa using hb
        subst e
        exact ItX.inv_fp I2 eI (Nat.le_trans hge2 hge)
      · rw [ItX.dropH_upd hn2]; exact q
end
section
variable {X : Cx} {cm : CM} {tg a b : Expr} {pos p : Pos} {elts : List Expr} {kk : Nat} {tpos : Pos}
def ownKeys (c : Nat) (fld : Str) (d : D) : Option (List D) := (fldD c fld d).bind fun r => match r with
  | .dk ds => some (DK.keys ds)
  | _ => none
def dOwn (c : Nat) (fld : Str) (g : VF) : DF := fun e => (g e).bind (ownKeys c fld)
theorem jd_own {c : Nat} {f : Addr} {fd : FuncData} {ps : List Str} {fld : Str} {k : Nat} {g : VF} (hs : PySem.W.findIn X.K (.ref (cm c)) "__iter__" = some (some (.ref f))) (hf : PySem.W.isFn X.K (.ref f) = true)
    (F : FnN X.prog X.w X.K X.mg X.base k f fd ps (spIt (cm c) fld)) (hr : Room k X.A) (hb2 : L2.Binds X.K fd ps []) (h : JV X cm a g) : JD X cm tg a (dOwn c fld g) := by
  obtain ⟨t, p, q⟩ := h
  refine ⟨_, pi_own hs hf F hr hb2 p, fun sp G F σ e ds cc h => ?_⟩
  obtain ⟨d, z1, z2⟩ := Option.bind_eq_some_iff.mp h
  obtain ⟨v, r, kq⟩ := q sp G F σ e d cc z1
  unfold ownKeys at z2
  obtain ⟨d2, z3, z2⟩ := Option.bind_eq_some_iff.mp z2
  split at z2
  · cases z2
    obtain ⟨fs, rfl, hl⟩ := fldD_inv z3
    obtain ⟨p, u, rfl, hp, dx, vs, rfl, rf⟩ := r
    obtain ⟨v', h1, p2, u2, rfl, hp2, vs2, rfl, rr⟩ := rf.get hl
    refine ⟨p2, _, hp2, trivial, fun lk H S od w hl R kk => kq lk H S w _ ⟨p, dx, vs, p2, od, vs2, rfl, w.pl hp (fun z => z), h1, ?_, kk G H _ Le.rfl w (foll_keys hp2 hl rr)⟩⟩
    have := w.gh p2 _ hp2
    unfold lkd at this
    rw [hl] at this; exact this
  · cases z2
/-! strings -/
def chars (s : Str) : List D := s.cps.toList.map fun c => .str ⟨#[c]⟩
def iStrs (f : FE) : AF := fun e => (f e).bind fun r => match r.1.d with
  | .str s => some (chars s, r.2)
  | _ => none
theorem foll_str {lk : Addr → Option Obj} {sp : Addr} {G : Hp} (s : Str) : Foll cm lk sp G (chars s) (Its s) := fun G1 F1 H1 S1 i g w => by
  have hl : (chars s).length = s.cps.size := by unfold chars; simp
  refine ⟨fun d hd => ⟨(show i < s.cps.size by rw [← hl]; exact (List.getElem?_eq_some_iff.mp hd).1), fun x H2 y => ?_⟩, fun hi => (show s.cps.size ≤ i by rw [← hl]; exact hi)⟩
  obtain ⟨rfl, c, hc, rfl⟩ := y
  unfold chars at hd
  rw [List.getElem?_map, Array.getElem?_toList, hc] at hd
  cases hd
  exact ⟨G1, Le.rfl, w, rfl⟩
theorem ji_str {f : FE} (h : JE X cm a f) : JI X cm tg a (iStrs f) := by
  obtain ⟨t, p, q⟩ := h.ex
  refine .of ⟨_, pi_str p, fun lk sp G F H σ e ds S' x hf R k => ?_⟩
  obtain ⟨⟨r, S1⟩, z1, hf⟩ := Option.bind_eq_some_iff.mp hf
  refine q lk sp G F H σ e r S1 x z1 _ fun G1 H1 v g1 w1 r1 => ?_
  cases hd : r.d with
  | str s =>
    simp only [hd] at hf
    cases hf
    have r2 := r1
    unfold ResR at r2
    by_cases o : r.own = true
    · rw [if_pos o] at r2
      obtain ⟨_, _, _, _, z, _⟩ := r2
      rw [hd] at z; exact z.elim
    · rw [if_neg o, hd] at r2
      cases (show v = V.str s from r2)
      exact ⟨s, rfl, k G1 H1 _ g1 w1 (foll_str s)⟩
  | _ => simp only [hd] at hf; cases hf
/-! enumerate, zip: of lists -/
def enumD : Nat → List D → List D
  | _, [] => []
  | n, d :: ds => .tup [.int n, d] :: enumD (n + 1) ds
theorem enumD_get : ∀ {ds : List D} {n i : Nat} {d : D}, (enumD n ds)[i]? = some d → ∃ x, ds[i]? = some x ∧ d = .tup [.int ((n + i : Nat)), x]
  | [], _, _, _, h => by simp [enumD] at h
  | x :: ds, n, 0, d, h => by simp [enumD] at h; exact ⟨x, by simp, by rw [← h]; rfl⟩
  | x :: ds, n, i + 1, d, h => by
    unfold enumD at h
    obtain ⟨y, h1, h2⟩ := enumD_get (ds := ds) (n := n + 1) (i := i) (by simpa using h)
    exact ⟨y, by simpa using h1, by rw [h2, show n + 1 + i = n + (i + 1) by omega]⟩
theorem enumD_len : ∀ {ds : List D} {n : Nat}, (enumD n ds).length = ds.length
  | [], _ => rfl
  | _ :: ds, n => by unfold enumD; rw [List.length_cons, List.length_cons, enumD_len]
def iEn (fa : AF) : AF := fun e => (fa e).bind fun r => match r.1 with
  | [.lst ds] => some (enumD 0 ds, r.2)
  | _ => none
theorem foll_enum {K : PySem.W.Frag} {lk : Addr → Option Obj} {sp q : Addr} {G : Hp} {vs : List V} {ds : List D} (hp : G q = some (.lst vs)) (r : Reps cm G ds vs) : Foll cm lk sp G (enumD 0 ds) (Ite K q) := fun G1 F1 H1 S1 i g w => by
  have hq : SqL K H1 q vs := SqL.of (w.pl (g _ _ hp) fun z => z)
  refine ⟨fun d hd => ?_, fun hi => ⟨vs, hq, by rw [r.len]; rw [enumD_len] at hi; exact hi⟩⟩
  obtain ⟨x, h1, rfl⟩ := enumD_get hd
  obtain ⟨v, h2, h3⟩ := r.get h1
  refine ⟨⟨vs, v, hq, h2⟩, fun y H2 yl => ?_⟩
  obtain ⟨T, x', rfl, hT, rfl, hx⟩ := yl
  have := hx vs hq
  rw [h2] at this; cases this
  have gn := w.gn hT
  exact ⟨upd G1 T (.tup [.int (i : Nat), v]), Le.upd gn, (w.new hT).still upd_same gn (w.fn hT) (w.spn hT), ObjR.rep (d := .tup _) upd_same ⟨_, rfl, _, _, rfl, by rw [Nat.zero_add]; rfl, _, _, rfl, (h3.mono g _ _).mono (Le.upd gn) _ _, rfl⟩⟩
theorem ji_enum {fa : AF} (hm : X.mg "enumerate" = none) (ha : JK X cm [a] fa) (hg : Gl X "enumerate" := by rfl) (hs : starEach [a] X.env = [(false, eval a X.env)] := by rfl) : JI X cm (.Tuple elts kk tpos) (.Call (.Name "enumerate" p) [a] [] pos) (iEn fa) := by
  obtain ⟨t, q1, q⟩ := ha.ex
  refine .of ⟨_, pi_enum hg hm q1 hs, fun lk sp G F H σ e ds S' x hf R k => ?_⟩
  obtain ⟨⟨ds1, S1⟩, z1, hf⟩ := Option.bind_eq_some_iff.mp hf
  refine q lk sp G F H σ e ds1 S1 x z1 _ fun G1 H1 vs g1 w1 r1 => ?_
  split at hf
  · rename_i ds2 he
    cases hf
    have he : ds1 = _ := he
    subst he
    obtain ⟨v, _, rfl, ⟨q, u, rfl, hq, ws, rfl, rr⟩, rfl⟩ := r1
    exact ⟨q, ws, rfl, SqL.of (w1.pl hq fun z => z), k G1 H1 _ g1 w1 (foll_enum hq rr)⟩
  · cases hf
def zipD (as bs : List D) : List D := (as.zip bs).map fun p => .tup [p.1, p.2]
def iZp (fa : AF) : AF := fun e => (fa e).bind fun r => match r.1 with
  | [.lst ds, .lst es] => some (zipD ds es, r.2)
  | _ => none
theorem foll_zip {K : PySem.W.Frag} {lk : Addr → Option Obj} {sp q q2 : Addr} {G : Hp} {vs ws : List V} {ds es : List D} (hp : G q = some (.lst vs)) (r : Reps cm G ds vs) (hp2 : G q2 = some (.lst ws)) (r2 : Reps cm G es ws) : Foll cm lk sp G (zipD ds es) (Itz K q q2) := fun G1 F1 H1 S1 i g w => by
  have hq : SqL K H1 q vs := SqL.of (w.pl (g _ _ hp) fun z => z)
  have hq2 : SqL K H1 q2 ws := SqL.of (w.pl (g _ _ hp2) fun z => z)
  have hl : (zipD ds es).length = min ds.length es.length := by unfold zipD; rw [List.length_map, List.length_zip]
  refine ⟨fun d hd => ?_, fun hi => ⟨vs, ws, hq, hq2, by rw [r.len, r2.len]; omega⟩⟩
  unfold zipD at hd
  rw [List.getElem?_map] at hd
  obtain ⟨⟨x1, x2⟩, h1, rfl⟩ := Option.map_eq_some_iff.mp hd
  rw [List.getElem?_zip_eq_some] at h1
  obtain ⟨v, h2, h3⟩ := r.get h1.1
  obtain ⟨v2, h4, h5⟩ := r2.get h1.2
  refine ⟨⟨vs, ws, v, v2, hq, hq2, h2, h4⟩, fun y H2 yl => ?_⟩
  obtain ⟨T, x', y', rfl, hT, rfl, hx, hy⟩ := yl
  have := hx vs hq
  rw [h2] at this; cases this
  have := hy ws hq2
  rw [h4] at this; cases this
  have gn := w.gn hT
  exact ⟨upd G1 T (.tup [v, v2]), Le.upd gn, (w.new hT).still upd_same gn (w.fn hT) (w.spn hT), ObjR.rep (d := .tup _) upd_same ⟨_, rfl, _, _, rfl, (h3.mono g _ _).mono (Le.upd gn) _ _, _, _, rfl, (h5.mono g _ _).mono (Le.upd gn) _ _, rfl⟩⟩
theorem ji_zip {fa : AF} (hm : X.mg "zip" = none) (ha : JK X cm [a, b] fa) (hg : Gl X "zip" := by rfl) (hs : starEach [a, b] X.env = (false, eval a X.env) :: starEach [b] X.env := by rfl) (hpl : (backTo pos (starEach [b] X.env)).any (·.1) = false := by rfl) :
    JI X cm (.Tuple elts kk tpos) (.Call (.Name "zip" p) [a, b] [] pos) (iZp fa) := by
  obtain ⟨t, q1, q⟩ := ha.ex
  refine .of ⟨_, pi_zip hg hm q1 hs hpl, fun lk sp G F H σ e ds S' x hf R k => ?_⟩
  obtain ⟨⟨ds1, S1⟩, z1, hf⟩ := Option.bind_eq_some_iff.mp hf
  refine q lk sp G F H σ e ds1 S1 x z1 _ fun G1 H1 vs g1 w1 r1 => ?_
  split at hf
  · rename_i ds2 es2 he
    cases hf
    have he : ds1 = _ := he
    subst he
    obtain ⟨v, _, rfl, ⟨q, u, rfl, hq, ws, rfl, rr⟩, v2, _, rfl, ⟨q2, u2, rfl, hq2, ws2, rfl, rr2⟩, rfl⟩ := r1
    exact ⟨q, q2, ws, ws2, rfl, SqL.of (w1.pl hq fun z => z), SqL.of (w1.pl hq2 fun z => z), k G1 H1 _ g1 w1 (foll_zip hq rr hq2 rr2)⟩
  · cases hf
end
end Al


set_option Elab.async false
set_option linter.all false
set_option maxRecDepth 100000
/-! Dict comprehensions. -/
namespace Al
open PySem PySem.Spec PyProof.Rows L2
def compKF (T : Tg) (c : TF) (fk : PF) (fv : FE) (e : En) : List D → List (Key × D) → Option Spr → Option (List (Key × D) × Option Spr)
  | [], acc, S => some (acc, S)
  | d :: ds, acc, S => (tgD T d (e.st S)).bind fun e1 => (c e1).bind fun b => if b.1 = true then (fk (e1.st b.2)).bind fun k => (fv (e1.st k.2)).bind fun v => (toKey k.1).bind fun kk => compKF T c fk fv e ds (putD acc kk v.1.d) v.2 else compKF T c fk fv e ds acc b.2
theorem putD_len {kvs : List (Key × D)} {k : Key} {v : D} : (putD kvs k v).length ≤ kvs.length + 1 := by
  unfold putD
  split
  · rw [List.length_map]; omega
  · rw [List.length_append]; exact Nat.le_refl _
theorem dcomp_core {K : PySem.W.Frag} {cm : CM} {wi : TI} {T : Tg} {vs : List Nat} {c : TF} {fk : PF} {fv : FE} {lk : Addr → Option Obj} {sp : Addr} {G F H : Hp} {σ : St} {e : En} {S1 S2 : Option Spr} {ds : List D} {rs : List (Key × D)} {Q : VK} (x : ER cm lk sp G F H σ e)
    (hi0 : ∀ R : It → Hp → Prop, (∀ G' H' J, Le G G' → WR lk sp G' F H' S1 → Foll cm lk sp G' ds J → R J H') → wi σ H R) (hz : ds.length ≤ 100000) (hvs : ∀ k ∈ T.slots, k ∈ vs) (z2 : compKF T c fk fv (e.wipe vs) ds [] S1 = some (rs, S2))
    (k : ∀ G' H' v, Le G G' → WR lk sp G' F H' S2 → ResR cm sp S2 G' F H' v (nw (.dk rs)) → Q v H') : tDc wi (tgT K T) (tT cm c) (tP cm fk) (tE cm fv) vs σ H Q := by
  refine hi0 _ fun G' H' J g' w' fo Dl hD => ?_
  have cw : CellsR cm sp G' F (wipe σ vs) (e.wipe vs).cs := (wiped vs x.c).mono g' Le.rfl
  refine ⟨fun i m H1 => ∃ G1 acc S, Le G' G1 ∧ WR lk sp G1 F H1 S ∧ G1 Dl = none ∧ F Dl = none ∧ (∀ s, S = some s → Dl ≠ sp) ∧ i ≤ ds.length ∧ m = ds.length - i ∧ acc.length ≤ i ∧
    ∃ us, H1 Dl = some (.dK us) ∧ RepK cm G1 acc us ∧ compKF T c fk fv (e.wipe vs) (ds.drop i) acc S = some (rs, S2), ?_, ?_⟩
  · refine ⟨_, G', [], S1, Le.rfl, w'.new hD, w'.gn hD, w'.fn hD, w'.spn hD, Nat.zero_le _, rfl, Nat.zero_le _, [], upd_same, rfl, by rw [List.drop_zero]; exact z2⟩
  · rintro i m H1 ⟨G1, acc, S, g1, w1, gD, fD, sD, hi', rfl, hacc, us, hDl, ra, hm⟩
    by_cases hlt : i < ds.length
    · obtain ⟨go, yl⟩ := (fo G1 F H1 S i g1 w1).1 ds[i] (List.getElem?_eq_getElem hlt)
      rw [List.drop_eq_getElem_cons hlt] at hm
      unfold compKF at hm
      obtain ⟨e1, t1, hm⟩ := Option.bind_eq_some_iff.mp hm
      obtain ⟨⟨b, Sb⟩, t2, hm⟩ := Option.bind_eq_some_iff.mp hm
      have wk := w1.keep hDl gD sD (fun xs z => by cases z)
      have yl' := fun x H2 y => ((fo G1 (upd F Dl (.dK us)) H1 S i g1 wk).1 ds[i] (List.getElem?_eq_getElem hlt)).2 x H2 y
      refine .inr ⟨go, fun H' => ∃ G1 acc S, Le G' G1 ∧ WR lk sp G1 F H' S ∧ G1 Dl = none ∧ F Dl = none ∧ (∀ s, S = some s → Dl ≠ sp) ∧ acc.length ≤ i + 1 ∧
        ∃ us, H' Dl = some (.dK us) ∧ RepK cm G1 acc us ∧ compKF T c fk fv (e.wipe vs) (ds.drop (i + 1)) acc S = some (rs, S2),
        fun H' ⟨G1, acc, S, a1, a2, a3, a4, a5, a6, a7⟩ => ⟨_, by omega, G1, acc, S, a1, a2, a3, a4, a5, hlt, rfl, a6, a7⟩, fun v H2 y => ?_⟩
      obtain ⟨G2, g2, w2, r2⟩ := yl' v H2 y
      have fk' : Le F (upd F Dl (.dK us)) := Le.upd fD
      have x2 : ER cm lk sp G2 (upd F Dl (.dK us)) H2 (wipe σ vs) ((e.wipe vs).st S) := ⟨w2, cw.mono (g1.trans g2) fk', (wipedS vs x.s).up fk' cw, (show Le (e.wipe vs).B _ by rw [wipe_B]; exact (((x.b.trans g').trans g1).trans g2))⟩
      refine tg_exp x2 r2 t1 hvs fun σ3 x3 wp => ⟨wp, ?_⟩
      refine ⟨lk, sp, G2, upd F Dl (.dK us), e1, b, Sb, x3, t2, fun G3 H3 g3 w3 => ?_⟩
      have sD3 : ∀ s, Sb = some s → Dl ≠ sp := fun s q z => by
        have := (w3.sp s q).2.2
        rw [← z, upd_same] at this; cases this
      have gD3 : G3 Dl = none := w3.fg Dl _ upd_same
      cases b with
      | false => exact ⟨G3, acc, Sb, (g1.trans g2).trans g3, w3.lessF fk', gD3, fD, sD3, by omega, us, w3.fh Dl _ upd_same, ra.mono (g2.trans g3) _ _, hm⟩
      | true =>
        obtain ⟨⟨dk, Sk⟩, t3, hm⟩ := Option.bind_eq_some_iff.mp hm
        obtain ⟨⟨r4, S4⟩, t4, hm⟩ := Option.bind_eq_some_iff.mp hm
        obtain ⟨kk, t5, hm⟩ := Option.bind_eq_some_iff.mp hm
        refine ⟨lk, sp, G3, upd F Dl (.dK us), e1.st Sb, dk, Sk, x3.next g3 Le.rfl w3, t3, fun G4 F4 H4 kv g4 f4 w4 rk => ?_⟩
        have x4 : ER cm lk sp G4 (upd F Dl (.dK us)) H4 σ3 (e1.st Sk) := x3.next (g3.trans g4) Le.rfl (w4.lessF f4)
        refine ⟨lk, sp, G4, upd F Dl (.dK us), _, r4, S4, x4, t4, fun G5 H5 v5 g5 w5 rr => ?_⟩
        obtain ⟨G6, g6, w6, r6⟩ := rr.freeze w5
        have gD6 : G6 Dl = none := w6.fg Dl _ upd_same
        have sD6 : ∀ s, S4 = some s → Dl ≠ sp := fun s q z => by
          have := (w6.sp s q).2.2
          rw [← z, upd_same] at this; cases this
        have gg : Le G' G6 := ((((g1.trans g2).trans g3).trans g4).trans g5).trans g6
        have hD6 := w6.fh Dl _ upd_same
        have ra6 : RepK cm G6 acc us := ra.mono ((((g2.trans g3).trans g4).trans g5).trans g6) _ _
        have hpl := putD_len (kvs := acc) (k := kk) (v := r4.d)
        refine ⟨us, kk, rk.key t5, hD6, Nat.lt_of_lt_of_le (by rw [ra.len]; omega : us.length < 100001) (by decide), G6, putD acc kk r4.d, S4, gg, ?_, gD6, fD, sD6, by omega, putK us kk v5, upd_same, ra6.put r6, hm⟩
        have wl := w6.lessF fk'
        have ne : ∀ {q : Addr} {u : HO}, G6 q = some u → q ≠ Dl := fun {q u} h z => by rw [z, gD6] at h; cases h
        have nf : ∀ {q : Addr} {u : HO}, F q = some u → q ≠ Dl := fun {q u} h z => by rw [z, fD] at h; cases h
        exact ⟨fun q u h => by rw [upd_ne (ne h)]; exact wl.gh q u h, fun q u h => by rw [upd_ne (nf h)]; exact wl.fh q u h, wl.fg, wl.lg, fun s h => ⟨by rw [upd_ne (sD6 s h).symm]; exact (wl.sp s h).1, (wl.sp s h).2⟩, wl.ft⟩
    · have e0 : i = ds.length := by omega
      subst e0
      rw [List.drop_eq_nil_of_le (Nat.le_refl _)] at hm
      cases hm
      exact .inl ⟨(fo G1 F H1 _ _ g1 w1).2 (Nat.le_refl _), k G1 H1 _ (g'.trans g1) w1 (ResR.nw hDl ⟨us, rfl, ra⟩ gD fD sD)⟩
def fDc (s : AF) (T : Tg) (vs : List Nat) (c : TF) (fk : PF) (fv : FE) : FE := fun e => (s e).bind fun r => if r.1.length ≤ 100000 ∧ ∀ k ∈ T.slots, k ∈ vs then (compKF T c fk fv (e.wipe vs) r.1 [] r.2).map fun q => (nw (.dk q.1), q.2) else none
def fDcD (s : DF) (T : Tg) (vs : List Nat) (c : TF) (fk : PF) (fv : FE) : FE := fun e => (s e).bind fun ds => if ds.length ≤ 100000 ∧ ∀ k ∈ T.slots, k ∈ vs then (compKF T c fk fv (e.wipe vs) ds [] e.S).map fun q => (nw (.dk q.1), q.2) else none
section
variable {X : Cx} {cm : CM} {kx vx tg iter : Expr} {ifs : List Expr} {scope : Scope} {own : List (Str × Nat)} {pos : Pos} {T : Tg} {c : TF} {fk : PF} {fv : FE}
theorem j_dc {s : AF} (own : List (Str × Nat)) (hc : X.calm = true) (hN : X.N.Nodup) (hi : JI X cm tg iter s) (ok : BlkOk X.N X.env.scope scope own) (hg : BlkE X scope fun Y => JG Y tg T) (ht : BlkE X scope fun Y => JTs Y cm ifs c) (hk : BlkE X scope fun Y => JP Y cm kx fk) (he : BlkE X scope fun Y => JE Y cm vx fv)
    (hs : ∀ x, foldedSetIterable iter X.env x = pure x := by intro _; rfl) : JE X cm (.DictComp kx vx [⟨tg, iter, ifs, 0⟩] scope pos) (fDc s T (own.map (·.2)) c fk fv) := by
  obtain ⟨t, p, q⟩ := hi.ex
  refine .of ⟨_, pe_dc (g := tgT X.K T) (tt := tT cm c) (tk := tP cm fk) (tv := tE cm fv) hc hN p ok hg ht hk he hs, fun lk sp G F H σ e r S' x hf Q k => ?_⟩
  obtain ⟨⟨ds, S1⟩, z1, hf⟩ := Option.bind_eq_some_iff.mp hf
  split at hf
  · rename_i hc
    obtain ⟨hz, hvs⟩ := hc
    obtain ⟨⟨rs, S2⟩, z2, hf⟩ := Option.map_eq_some_iff.mp hf
    cases hf
    exact dcomp_core x (fun R k => q lk sp G F H σ e ds S1 x z1 R k) hz hvs z2 k
  · cases hf
theorem j_dcD {s : DF} (own : List (Str × Nat)) (hc : X.calm = true) (hN : X.N.Nodup) (hi : JD X cm tg iter s) (ok : BlkOk X.N X.env.scope scope own) (hg : BlkE X scope fun Y => JG Y tg T) (ht : BlkE X scope fun Y => JTs Y cm ifs c) (hk : BlkE X scope fun Y => JP Y cm kx fk) (he : BlkE X scope fun Y => JE Y cm vx fv)
    (hs : ∀ x, foldedSetIterable iter X.env x = pure x := by intro _; rfl) : JE X cm (.DictComp kx vx [⟨tg, iter, ifs, 0⟩] scope pos) (fDcD s T (own.map (·.2)) c fk fv) := by
  obtain ⟨t, p, q⟩ := hi
  have pe := pe_dc (pos := pos) (g := tgT X.K T) (tt := tT cm c) (tk := tP cm fk) (tv := tE cm fv) hc hN p ok hg ht hk he hs
  refine .of ⟨_, PE_or pe (pe_lock pe), fun lk sp G F H σ e r S' x hf Q k => ?_⟩
  obtain ⟨ds, z1, hf⟩ := Option.bind_eq_some_iff.mp hf
  split at hf
  · rename_i hc
    obtain ⟨hz, hvs⟩ := hc
    obtain ⟨⟨rs, S2⟩, z2, hf⟩ := Option.map_eq_some_iff.mp hf
    cases hf
    obtain ⟨d, u, hd, hl, rr⟩ := q sp G F σ e ds x.c z1
    cases hk : lk d with
    | some od => exact .inl (dcomp_core x (fun R k => rr lk H e.S od x.w hk R k) hz hvs z2 k)
    | none =>
      have hu : H d = some u := by
        have := x.w.gh d u hd
        unfold lkd at this
        rw [hk] at this; exact this
      refine .inr ⟨d, u, hu, hl.mut, fun od => ?_⟩
      have xl : ER cm (lkS lk d od) sp G F (upd H d (.frz od u)) σ e := ⟨x.w.lock hd hl, x.c, x.s, x.b⟩
      exact dcomp_core xl (fun R k => rr (lkS lk d od) _ e.S od xl.w lkS_same R k) hz hvs z2 fun G' H' v g w r =>
        let ⟨a, b⟩ := w.unlock (g _ _ hd) hk
        ⟨a, k G' _ v g b (r.unlock (g _ _ hd))⟩
  · cases hf
end
/-! ### dicts of own things -/
abbrev F2 := En → Option (List (Key × D) × Option Spr)
def EOk2 (cm : CM) (t : TE) (f : F2) : Prop := ∀ lk sp G F H σ e ds S', ER cm lk sp G F H σ e → f e = some (ds, S') → ∀ Q : VK,
  (∀ G' F' H' p vs, Le G G' → Le F F' → WR lk sp G' F' H' S' → H' p = some (.dK vs) → G' p = none → F' p = none → (∀ s, S' = some s → p ≠ sp) → Rep2 cm G' F' ds vs → (∀ k q, (k, V.ref q) ∈ vs → F q = none) → Q (.ref p) H') → t σ H Q
def sSet2 (i : Nat) (f : F2) : FS := fun e => (f e).map fun r => (.nx, (e.st r.2).put i (.own2 r.1))
theorem ok_set2 {cm : CM} {t : TE} {i : Nat} {f : F2} (q : EOk2 cm t f) : SOk cm (tAsg t (gName i)) (sSet2 i f) := fun lk sp G F0 H σ e fl e' x hf D k => by
  obtain ⟨⟨ds, S1⟩, z1, hf⟩ := Option.map_eq_some_iff.mp hf
  cases hf
  obtain ⟨F, l, x, y⟩ := x
  refine q lk sp G F H σ e ds S1 x z1 _ fun G1 F1 H1 p vs g1 f1 w1 hp gp fp sp' r2 fr => k G1 H1 _ g1 ?_
  have f2 : Le F (upd F1 p (.dK vs)) := f1.trans (Le.upd fp)
  have w2 := w1.keep hp gp sp' (fun xs z => by cases z)
  have x1 : ER cm lk sp G1 (upd F1 p (.dK vs)) H1 σ (e.st S1) := x.next g1 f2 w2
  have np : ∀ k, (k, V.ref p) ∉ vs := fun k m => by
    obtain ⟨u, h⟩ := r2.some k p m
    rw [fp] at h; cases h
  refine ⟨upd F1 p (.dK vs), l.trans f2, ER.put x1 ⟨p, vs, rfl, upd_same, np, r2.mono Le.rfl (Le.upd fp)⟩ fun j c' o' q hj e1 e2 ff1 ff2 => ?_, Out.put (y.up f2 x.c) fun q f => ?_⟩
  · obtain ⟨o2, h1, h2⟩ := x.c j c' e1
    rw [e2] at h1; cases h1
    obtain ⟨u', h3⟩ := Ft.some h2 (Ft.back f2 h2 ff1)
    rcases ff2 with z | ⟨q', vs', k', a, b, m⟩
    · cases z
      rw [f1 _ _ h3] at fp; cases fp
    · cases a
      rw [upd_same] at b; cases b
      rw [fr k' q m] at h3; cases h3
  · rcases f with z | ⟨q', vs', k', a, b, m⟩
    · cases z; exact (l.trans f1).none fp
    · cases a
      rw [upd_same] at b; cases b
      exact l.none (fr k' q m)
end Al


set_option Elab.async false
set_option linter.all false
set_option maxRecDepth 100000
/-! Dicts of own things: made, written at. -/
namespace Al
open PySem PySem.Spec PyProof.Rows L2
section
variable {X : Cx} {cm : CM} {pos : Pos}
def fDk0 : FE := fun e => some (nw (.dk []), e.S)
def fDt0 : FE := fun e => some (nw (.dt []), e.S)
theorem j_dk0 : JE X cm (.Dict [] [] pos) fDk0 := .of ⟨_, pe_dnewK, fun lk sp G F H σ e r S' x hf Q k => by
  cases hf
  exact fun p hp => k G _ _ Le.rfl (x.w.new hp) (ResR.nw upd_same ⟨[], rfl, rfl⟩ (x.w.gn hp) (x.w.fn hp) (x.w.spn hp))⟩
theorem j_dt0 : JE X cm (.Dict [] [] pos) fDt0 := .of ⟨_, pe_dnewT, fun lk sp G F H σ e r S' x hf Q k => by
  cases hf
  exact fun p hp => k G _ _ Le.rfl (x.w.new hp) (ResR.nw upd_same ⟨[], rfl, rfl⟩ (x.w.gn hp) (x.w.fn hp) (x.w.spn hp))⟩
end
def hasK (ds : List (Key × D)) (k : Key) : Bool := ds.any fun kv => decide (kv.1 = k)
def compK2 (T : Tg) (fk : PF) (fv : FE) (e : En) : List D → List (Key × D) → Option Spr → Option (List (Key × D) × Option Spr)
  | [], acc, S => some (acc, S)
  | d :: ds, acc, S => (tgD T d (e.st S)).bind fun e1 => (fk e1).bind fun k => (fv (e1.st k.2)).bind fun v => (toKey k.1).bind fun kk => if v.1.own = true ∧ hasK acc kk = false then compK2 T fk fv e ds (acc ++ [(kk, v.1.d)]) v.2 else none
section
variable {cm : CM} {lk : Addr → Option Obj} {sp : Addr} {G G' F0 F F' H H' : Hp} {σ : St} {e : En}
theorem Rep2.len : ∀ {ds : List (Key × D)} {vs : List (Key × V)}, Rep2 cm G F ds vs → vs.length = ds.length
  | [], _, r => by obtain rfl : _ = [] := r; rfl
  | _ :: ds, _, ⟨q, u, t, e, _, _, _, b⟩ => by rw [e, List.length_cons, List.length_cons, Rep2.len b]
theorem Rep2.any {k : Key} : ∀ {ds : List (Key × D)} {vs : List (Key × V)}, Rep2 cm G F ds vs → (vs.any fun kv => decide (kv.1 = k)) = hasK ds k
  | [], _, r => by obtain rfl : _ = [] := r; rfl
  | (k', d) :: ds, _, ⟨q, u, t, e, _, _, _, b⟩ => by subst e; unfold hasK; rw [List.any_cons, List.any_cons, Rep2.any b]; rfl
theorem Rep2.snoc {k : Key} {d : D} {q : Addr} {u : HO} (h : F q = Option.some u) (o : ObjR cm G d u) : ∀ {ds : List (Key × D)} {vs : List (Key × V)}, Rep2 cm G F ds vs → (∀ k', (k', V.ref q) ∉ vs) → Rep2 cm G F (ds ++ [(k, d)]) (vs ++ [(k, .ref q)])
  | [], _, r, _ => by
    have r' : _ = [] := r
    rw [r']
    exact ⟨q, u, [], rfl, h, o, (fun _ z => nomatch z), rfl⟩
  | (k0, d0) :: ds, _, ⟨q0, u0, t, e, h0, o0, n0, b⟩, hn => by
    subst e
    refine ⟨q0, u0, _, rfl, h0, o0, fun k' m => ?_, Rep2.snoc h o b fun k' m => hn k' (List.mem_cons_of_mem _ m)⟩
    rcases List.mem_append.mp m with m | m
    · exact n0 k' m
    · rw [List.mem_singleton] at m
      cases m
      exact hn k0 List.mem_cons_self
theorem putK_new {vs : List (Key × V)} {k : Key} {v : V} (h : (vs.any fun kv => decide (kv.1 = k)) = false) : putK vs k v = vs ++ [(k, v)] := by
  unfold putK
  rw [h, if_neg Bool.false_ne_true]
end
theorem dcomp_core2 {K : PySem.W.Frag} {cm : CM} {wi : TI} {T : Tg} {vs : List Nat} {fk : PF} {fv : FE} {lk : Addr → Option Obj} {sp : Addr} {G F H : Hp} {σ : St} {e : En} {S1 S2 : Option Spr} {ds : List D} {rs : List (Key × D)} {Q : VK} (x : ER cm lk sp G F H σ e)
    (hi0 : ∀ R : It → Hp → Prop, (∀ G' H' J, Le G G' → WR lk sp G' F H' S1 → Foll cm lk sp G' ds J → R J H') → wi σ H R) (hz : ds.length ≤ 100000) (hvs : ∀ k ∈ T.slots, k ∈ vs) (z2 : compK2 T fk fv (e.wipe vs) ds [] S1 = some (rs, S2))
    (k : ∀ G' F' H' p vs, Le G G' → Le F F' → WR lk sp G' F' H' S2 → H' p = some (.dK vs) → G' p = none → F' p = none → (∀ s, S2 = some s → p ≠ sp) → Rep2 cm G' F' rs vs → (∀ k q, (k, V.ref q) ∈ vs → F q = none) → Q (.ref p) H') :
    tDc wi (tgT K T) (tT cm tYes') (tP cm fk) (tE cm fv) vs σ H Q := by
  refine hi0 _ fun G' H' J g' w' fo Dl hD => ?_
  have cw : CellsR cm sp G' F (wipe σ vs) (e.wipe vs).cs := (wiped vs x.c).mono g' Le.rfl
  refine ⟨fun i m H1 => ∃ G1 F1 acc S, Le G' G1 ∧ Le F F1 ∧ WR lk sp G1 F1 H1 S ∧ G1 Dl = none ∧ F1 Dl = none ∧ (∀ s, S = some s → Dl ≠ sp) ∧ i ≤ ds.length ∧ m = ds.length - i ∧ acc.length ≤ i ∧
    ∃ us, H1 Dl = some (.dK us) ∧ Rep2 cm G1 F1 acc us ∧ (∀ k q, (k, V.ref q) ∈ us → F q = none) ∧ compK2 T fk fv (e.wipe vs) (ds.drop i) acc S = some (rs, S2), ?_, ?_⟩
  · exact ⟨_, G', F, [], S1, Le.rfl, Le.rfl, w'.new hD, w'.gn hD, w'.fn hD, w'.spn hD, Nat.zero_le _, rfl, Nat.zero_le _, [], upd_same, rfl, (fun _ _ z => nomatch z), by rw [List.drop_zero]; exact z2⟩
  · rintro i m H1 ⟨G1, F1, acc, S, g1, f1, w1, gD, fD, sD, hi', rfl, hacc, us, hDl, ra, fr, hm⟩
    by_cases hlt : i < ds.length
    · obtain ⟨go, yl⟩ := (fo G1 F1 H1 S i g1 w1).1 ds[i] (List.getElem?_eq_getElem hlt)
      rw [List.drop_eq_getElem_cons hlt] at hm
      unfold compK2 at hm
      obtain ⟨e1, t1, hm⟩ := Option.bind_eq_some_iff.mp hm
      have wk := w1.keep hDl gD sD (fun xs z => by cases z)
      have yl' := fun x H2 y => ((fo G1 (upd F1 Dl (.dK us)) H1 S i g1 wk).1 ds[i] (List.getElem?_eq_getElem hlt)).2 x H2 y
      refine .inr ⟨go, fun H' => ∃ G1 F1 acc S, Le G' G1 ∧ Le F F1 ∧ WR lk sp G1 F1 H' S ∧ G1 Dl = none ∧ F1 Dl = none ∧ (∀ s, S = some s → Dl ≠ sp) ∧ acc.length ≤ i + 1 ∧
        ∃ us, H' Dl = some (.dK us) ∧ Rep2 cm G1 F1 acc us ∧ (∀ k q, (k, V.ref q) ∈ us → F q = none) ∧ compK2 T fk fv (e.wipe vs) (ds.drop (i + 1)) acc S = some (rs, S2),
        fun H' ⟨G1, F1, acc, S, a1, a2, a3, a4, a5, a6, a7, a8⟩ => ⟨_, by omega, G1, F1, acc, S, a1, a2, a3, a4, a5, a6, hlt, rfl, a7, a8⟩, fun v H2 y => ?_⟩
      obtain ⟨G2, g2, w2, r2⟩ := yl' v H2 y
      have fk1 : Le F1 (upd F1 Dl (.dK us)) := Le.upd fD
      have fk' : Le F (upd F1 Dl (.dK us)) := f1.trans fk1
      have x2 : ER cm lk sp G2 (upd F1 Dl (.dK us)) H2 (wipe σ vs) ((e.wipe vs).st S) := ⟨w2, cw.mono (g1.trans g2) fk', (wipedS vs x.s).up fk' cw, (show Le (e.wipe vs).B _ by rw [wipe_B]; exact (((x.b.trans g').trans g1).trans g2))⟩
      refine tg_exp x2 r2 t1 hvs fun σ3 x3 wp => ⟨wp, ?_⟩
      refine ⟨lk, sp, G2, upd F1 Dl (.dK us), e1, true, e1.S, x3, rfl, fun G3 H3 g3 w3 => ?_⟩
      show (if true = true then _ else _)
      rw [if_pos rfl]
      obtain ⟨⟨dk, Sk⟩, t3, hm⟩ := Option.bind_eq_some_iff.mp hm
      obtain ⟨⟨r4, S4⟩, t4, hm⟩ := Option.bind_eq_some_iff.mp hm
      obtain ⟨kk, t5, hm⟩ := Option.bind_eq_some_iff.mp hm
      refine ⟨lk, sp, G3, upd F1 Dl (.dK us), e1.st e1.S, dk, Sk, x3.next g3 Le.rfl w3, t3, fun G4 F4 H4 kv g4 f4 w4 rk => ?_⟩
      have x4 : ER cm lk sp G4 (upd F1 Dl (.dK us)) H4 σ3 (e1.st Sk) := x3.next (g3.trans g4) Le.rfl (w4.lessF f4)
      refine ⟨lk, sp, G4, upd F1 Dl (.dK us), _, r4, S4, x4, t4, fun G5 H5 v5 g5 w5 rr => ?_⟩
      split at hm
      · rename_i hh
        obtain ⟨ho, hk⟩ := hh
        unfold ResR at rr
        have ho : r4.own = true := ho
        rw [if_pos ho] at rr
        obtain ⟨p5, u5, rfl, hp5, ob5, gp5, fp5, sp5, nt5⟩ := rr
        have hne : p5 ≠ Dl := fun z => by rw [z, upd_same] at fp5; cases fp5
        have fp1 : F1 p5 = none := by rw [upd_ne hne] at fp5; exact fp5
        have gD5 : G5 Dl = none := w5.fg Dl _ upd_same
        have sD5 : ∀ s, S4 = some s → Dl ≠ sp := fun s q z => by
          have := (w5.sp s q).2.2
          rw [← z, upd_same] at this; cases this
        have gg : Le G' G5 := (((g1.trans g2).trans g3).trans g4).trans g5
        have hD5 := w5.fh Dl _ upd_same
        have wl : WR lk sp G5 (upd F1 p5 u5) H5 S4 := (w5.lessF fk1).keep hp5 gp5 sp5 nt5
        have ra5 : Rep2 cm G5 (upd F1 p5 u5) acc us := ra.mono ((((g2.trans g3).trans g4).trans g5)) (Le.upd fp1)
        have hnew : (us.any fun kv => decide (kv.1 = kk)) = false := by rw [ra.any]; exact hk
        have nin : ∀ k', (k', V.ref p5) ∉ us := fun k' m => by
          obtain ⟨u', h⟩ := ra.some k' p5 m
          rw [fp1] at h; cases h
        refine ⟨us, kk, rk.key t5, hD5, Nat.lt_of_lt_of_le (by rw [ra.len]; omega : us.length < 100001) (by decide), G5, upd F1 p5 u5, acc ++ [(kk, r4.d)], S4, gg, f1.trans (Le.upd fp1), ?_, gD5, by rw [upd_ne hne.symm]; exact fD, sD5,
          by rw [List.length_append]; exact Nat.succ_le_succ hacc, us ++ [(kk, .ref p5)], by rw [putK_new hnew]; exact upd_same, ra5.snoc upd_same ob5 nin, fun k q m => ?_, hm⟩
        · have ne : ∀ {q : Addr} {u : HO}, G5 q = some u → q ≠ Dl := fun {q u} h z => by rw [z, gD5] at h; cases h
          have nf : ∀ {q : Addr} {u : HO}, (upd F1 p5 u5) q = some u → q ≠ Dl := fun {q u} h z => by rw [z, upd_ne hne.symm, fD] at h; cases h
          exact ⟨fun q u h => by rw [upd_ne (ne h)]; exact wl.gh q u h, fun q u h => by rw [upd_ne (nf h)]; exact wl.fh q u h, wl.fg, wl.lg, fun s h => ⟨by rw [upd_ne (sD5 s h).symm]; exact (wl.sp s h).1, (wl.sp s h).2⟩, wl.ft⟩
        · rcases List.mem_append.mp m with m | m
          · exact fr k q m
          · rw [List.mem_singleton] at m
            cases m
            exact f1.none fp1
      · cases hm
    · have e0 : i = ds.length := by omega
      subst e0
      rw [List.drop_eq_nil_of_le (Nat.le_refl _)] at hm
      cases hm
      exact .inl ⟨(fo G1 F1 H1 _ _ g1 w1).2 (Nat.le_refl _), k G1 F1 H1 Dl us (g'.trans g1) f1 w1 hDl gD fD sD ra fr⟩
def f2Dc (s : AF) (T : Tg) (vs : List Nat) (fk : PF) (fv : FE) : F2 := fun e => (s e).bind fun r => if r.1.length ≤ 100000 ∧ ∀ k ∈ T.slots, k ∈ vs then compK2 T fk fv (e.wipe vs) r.1 [] r.2 else none
section
variable {X : Cx} {cm : CM} {kx vx tg iter : Expr} {ifs : List Expr} {scope : Scope} {own : List (Str × Nat)} {pos spos p1 p2 p3 p4 : Pos} {T : Tg} {c : TF} {fk : PF} {fv : FE}
/-- x = {k: v for ..}, each v a new thing -/
theorem js_set2Dc {s : AF} {i : Nat} {x : Str} (own : List (Str × Nat)) (hc : X.calm = true) (hN : X.N.Nodup) (hi : JI X cm tg iter s) (ok : BlkOk X.N X.env.scope scope own) (hg : BlkE X scope fun Y => JG Y tg T) (hk : BlkE X scope fun Y => JP Y cm kx fk) (he : BlkE X scope fun Y => JE Y cm vx fv)
    (hx : X.N[i]? = some x := by rfl) (hl : Loc X.env.scope x := by first | exact Or.inl rfl | exact Or.inr rfl) (hsw : swapsWith (.DictComp kx vx [⟨tg, iter, [], 0⟩] scope pos) (some (.Name x p1)) spos.line X.env = pure false := by rfl)
    (hf : X.fn x = true ∨ X.env.scope.names.lookup x = some .local := by first | exact .inl rfl | exact .inr rfl)
    (hs : ∀ x, foldedSetIterable iter X.env x = pure x := by intro _; rfl) : JS X cm (.Assign [.Name x p1] (.DictComp kx vx [⟨tg, iter, [], 0⟩] scope pos) spos) (sSet2 i (f2Dc s T (own.map (·.2)) fk fv)) := by
  obtain ⟨t, p, q⟩ := hi.ex
  refine .of ⟨_, ps_set hN hx hl (pe_dc (g := tgT X.K T) (tt := tT cm tYes') (tk := tP cm fk) (tv := tE cm fv) hc hN p ok hg (fun _ _ _ _ _ => jts_nil) hk he hs) hsw hf, ok_set2 fun lk sp G F H σ e ds S' x hf Q k => ?_⟩
  obtain ⟨⟨ds1, S1⟩, z1, hf⟩ := Option.bind_eq_some_iff.mp hf
  split at hf
  · rename_i hc
    obtain ⟨hz, hvs⟩ := hc
    exact dcomp_core2 x (fun R k => q lk sp G F H σ e ds1 S1 x z1 R k) hz hvs hf k
  · cases hf
end
end Al


set_option Elab.async false
set_option linter.all false
set_option maxRecDepth 100000
/-! dict(pairs); dicts of own things, written within. -/
namespace Al
open PySem PySem.Spec PyProof.Rows L2
section
variable {X : Cx} {cm : CM} {lk : Addr → Option Obj} {sp : Addr} {G G' F0 F F' H H' : Hp} {σ : St} {e : En}
def pairsD : List D → Option (List (Key × D))
  | [] => some []
  | .tup [k, v] :: ds => (toKey k).bind fun k => (pairsD ds).map fun r => (k, v) :: r
  | _ :: _ => none
def mergeD (kvs more : List (Key × D)) : List (Key × D) := more.foldl (fun acc kv => putD acc kv.1 kv.2) kvs
theorem RepK.merge : ∀ {more : List (Key × D)} {ws : List (Key × V)} {ds : List (Key × D)} {vs : List (Key × V)}, RepK cm G ds vs → RepK cm G more ws → RepK cm G (mergeD ds more) (mergeK vs ws)
  | [], _, _, _, r, q => by have q' : _ = [] := q; rw [q']; exact r
  | (k, d) :: more, _, ds, vs, r, ⟨v, t, e, a, b⟩ => by
    subst e
    exact RepK.merge (more := more) (ws := t) (ds := putD ds k d) (vs := putK vs k v) (r.put a) b
theorem pairs_ok {S : Option Spr} (w : WR lk sp G F H S) {K : PySem.W.Frag} : ∀ {ds : List D} {vs : List V} {kvs : List (Key × D)}, Reps cm G ds vs → pairsD ds = some kvs →
    ∃ (ps : List Addr) (ws : List (Key × V)), vs = ps.map V.ref ∧ Paired (fun p kv => SqT K H p [kV kv.1, kv.2]) ps ws ∧ RepK cm G kvs ws
  | [], _, _, r, h => by
    have r' : _ = [] := r
    subst r'
    cases h
    exact ⟨[], [], rfl, .nil, rfl⟩
  | d :: ds, _, kvs, ⟨v, t, e, a, b⟩, h => by
    subst e
    unfold pairsD at h
    split at h
    · cases ‹_ :: _ = []›
    · rename_i k dv ds' he
      cases he
      obtain ⟨kk, h1, h⟩ := Option.bind_eq_some_iff.mp h
      obtain ⟨rest, h2, rfl⟩ := Option.map_eq_some_iff.mp h
      obtain ⟨ps, ws, rfl, hp, hr⟩ := pairs_ok w b h2
      obtain ⟨p, u, rfl, hg, us, rfl, v1, _, rfl, r1, v2, _, rfl, r2, rfl⟩ := a
      have e1 : v1 = kV kk := RepT.key (F := F) (.inl r1) h1
      subst e1
      exact ⟨p :: ps, (kk, v2) :: ws, rfl, .cons (SqT.of (w.pl hg fun z => z)) hp, v2, ws, rfl, r2, hr⟩
    · cases h
def bDict : Fb
  | [.lst ds] => (pairsD ds).map fun kvs => nw (.dk (mergeD [] kvs))
  | _ => none
theorem jc_dict (hc : X.calm = true) : JC X cm (.type "dict") bDict := ⟨_, call_dictP hc, fun lk sp G F H S ds vs res w rr hg Q q => by
  unfold bDict at hg
  split at hg
  · obtain ⟨kvs, h1, rfl⟩ := Option.map_eq_some_iff.mp hg
    obtain ⟨v, rfl, r⟩ := rr.one
    obtain ⟨p, us, rfl, hp, r2⟩ := r.lst w
    obtain ⟨ps, ws, rfl, hpr, hr⟩ := pairs_ok (K := X.K) w r2 h1
    exact ⟨p, ps, ws, rfl, SqL.of hp, hpr, fun b hb => q G _ _ Le.rfl (w.new hb) (ResR.nw upd_same ⟨_, rfl, RepK.merge (ds := []) rfl hr⟩ (w.gn hb) (w.fn hb) (w.spn hb))⟩
  · cases hg⟩

theorem Rep2.nodup : ∀ {ds : List (Key × D)} {vs : List (Key × V)}, Rep2 cm G F ds vs → vs.map (·.1) = ds.map (·.1)
  | [], _, r => by obtain rfl : _ = [] := r; rfl
  | (k, d) :: ds, _, ⟨q, u, t, e, _, _, _, b⟩ => by subst e; rw [List.map_cons, List.map_cons, Rep2.nodup b]
theorem mergeK_nodup : ∀ {ws acc : List (Key × V)}, (acc.map (·.1) ++ ws.map (·.1)).Nodup → mergeK acc ws = acc ++ ws
  | [], acc, _ => by rw [List.append_nil]; rfl
  | (k, v) :: ws, acc, h => by
    have hk : (acc.any fun kv => decide (kv.1 = k)) = false := by
      rw [List.any_eq_false]
      intro x hx hd
      have hd : x.1 = k := by simpa using hd
      rw [List.map_cons, List.nodup_append] at h
      exact h.2.2 x.1 (List.mem_map_of_mem hx) k List.mem_cons_self hd
    show mergeK (putK acc k v) ws = _
    rw [putK_new hk, mergeK_nodup (by
      rw [List.map_append, List.append_assoc]
      exact h), List.append_assoc]
    rfl
theorem nodup_snoc {ds : List (Key × D)} {k : Key} {d : D} (h : (ds.map (·.1)).Nodup) (hk : hasK ds k = false) : ((ds ++ [(k, d)]).map (·.1)).Nodup := by
  rw [List.map_append, List.nodup_append]
  refine ⟨h, by simp, fun a ha b hb z => ?_⟩
  rw [List.map_cons, List.map_nil, List.mem_singleton] at hb
  subst hb
  subst z
  obtain ⟨x, hx, e⟩ := List.mem_map.mp ha
  unfold hasK at hk
  rw [List.any_eq_false] at hk
  exact hk x hx (by simpa using e)
end
/-- the list of pairs (k, v), each v a new thing -/
theorem lcomp_core2 {K : PySem.W.Frag} {cm : CM} {wi : TI} {T : Tg} {vs : List Nat} {fk : PF} {fv : FE} {lk : Addr → Option Obj} {sp : Addr} {G F H : Hp} {σ : St} {e : En} {S1 S2 : Option Spr} {ds : List D} {rs : List (Key × D)} {Q : VK} (x : ER cm lk sp G F H σ e)
    (hi0 : ∀ R : It → Hp → Prop, (∀ G' H' J, Le G G' → WR lk sp G' F H' S1 → Foll cm lk sp G' ds J → R J H') → wi σ H R) (hz : ds.length ≤ 100000) (hvs : ∀ k ∈ T.slots, k ∈ vs) (z2 : compK2 T fk fv (e.wipe vs) ds [] S1 = some (rs, S2))
    (k : ∀ G' F' H' p ps ws, Le G G' → Le F F' → WR lk sp G' F' H' S2 → H' p = some (.lst (ps.map V.ref)) → Paired (fun p kv => SqT K H' p [kV kv.1, kv.2]) ps ws → (rs.map (·.1)).Nodup → Rep2 cm G' F' rs ws → (∀ k q, (k, V.ref q) ∈ ws → F q = none) → Q (.ref p) H') :
    tLc wi (tgT K T) (tT cm tYes') (tTup (tCons (tP cm fk) (tCons (tE cm fv) tNil))) vs σ H Q := by
  refine hi0 _ fun G' H' J g' w' fo Dl hD => ?_
  have cw : CellsR cm sp G' F (wipe σ vs) (e.wipe vs).cs := (wiped vs x.c).mono g' Le.rfl
  refine ⟨fun i m H1 => ∃ G1 F1 acc S, Le G' G1 ∧ Le F F1 ∧ WR lk sp G1 F1 H1 S ∧ G1 Dl = none ∧ F1 Dl = none ∧ (∀ s, S = some s → Dl ≠ sp) ∧ i ≤ ds.length ∧ m = ds.length - i ∧ acc.length ≤ i ∧
    ∃ ps us, H1 Dl = some (.lst (ps.map V.ref)) ∧ Paired (fun p kv => G1 p = some (.tup [kV kv.1, kv.2])) ps us ∧ (acc.map (·.1)).Nodup ∧ Rep2 cm G1 F1 acc us ∧ (∀ k q, (k, V.ref q) ∈ us → F q = none) ∧ compK2 T fk fv (e.wipe vs) (ds.drop i) acc S = some (rs, S2), ?_, ?_⟩
  · exact ⟨_, G', F, [], S1, Le.rfl, Le.rfl, w'.new hD, w'.gn hD, w'.fn hD, w'.spn hD, Nat.zero_le _, rfl, Nat.zero_le _, [], [], upd_same, .nil, List.nodup_nil, rfl, (fun _ _ z => nomatch z), by rw [List.drop_zero]; exact z2⟩
  · rintro i m H1 ⟨G1, F1, acc, S, g1, f1, w1, gD, fD, sD, hi', rfl, hacc, ps, us, hDl, hpp, hnd, ra, fr, hm⟩
    by_cases hlt : i < ds.length
    · obtain ⟨go, yl⟩ := (fo G1 F1 H1 S i g1 w1).1 ds[i] (List.getElem?_eq_getElem hlt)
      rw [List.drop_eq_getElem_cons hlt] at hm
      unfold compK2 at hm
      obtain ⟨e1, t1, hm⟩ := Option.bind_eq_some_iff.mp hm
      have wk := w1.keep hDl gD sD (fun xs z => by cases z)
      have yl' := fun x H2 y => ((fo G1 (upd F1 Dl (.lst (ps.map V.ref))) H1 S i g1 wk).1 ds[i] (List.getElem?_eq_getElem hlt)).2 x H2 y
      refine .inr ⟨go, fun H' => ∃ G1 F1 acc S, Le G' G1 ∧ Le F F1 ∧ WR lk sp G1 F1 H' S ∧ G1 Dl = none ∧ F1 Dl = none ∧ (∀ s, S = some s → Dl ≠ sp) ∧ acc.length ≤ i + 1 ∧
        ∃ ps us, H' Dl = some (.lst (ps.map V.ref)) ∧ Paired (fun p kv => G1 p = some (.tup [kV kv.1, kv.2])) ps us ∧ (acc.map (·.1)).Nodup ∧ Rep2 cm G1 F1 acc us ∧ (∀ k q, (k, V.ref q) ∈ us → F q = none) ∧ compK2 T fk fv (e.wipe vs) (ds.drop (i + 1)) acc S = some (rs, S2),
        fun H' ⟨G1, F1, acc, S, a1, a2, a3, a4, a5, a6, a7, a8⟩ => ⟨_, by omega, G1, F1, acc, S, a1, a2, a3, a4, a5, a6, hlt, rfl, a7, a8⟩, fun v H2 y => ?_⟩
      obtain ⟨G2, g2, w2, r2⟩ := yl' v H2 y
      have fk1 : Le F1 (upd F1 Dl (.lst (ps.map V.ref))) := Le.upd fD
      have fk' : Le F (upd F1 Dl (.lst (ps.map V.ref))) := f1.trans fk1
      have x2 : ER cm lk sp G2 (upd F1 Dl (.lst (ps.map V.ref))) H2 (wipe σ vs) ((e.wipe vs).st S) := ⟨w2, cw.mono (g1.trans g2) fk', (wipedS vs x.s).up fk' cw, (show Le (e.wipe vs).B _ by rw [wipe_B]; exact (((x.b.trans g').trans g1).trans g2))⟩
      refine tg_exp x2 r2 t1 hvs fun σ3 x3 wp => ⟨wp, ?_⟩
      refine ⟨lk, sp, G2, upd F1 Dl (.lst (ps.map V.ref)), e1, true, e1.S, x3, rfl, fun G3 H3 g3 w3 => ?_⟩
      show (if true = true then _ else _)
      rw [if_pos rfl]
      obtain ⟨⟨dk, Sk⟩, t3, hm⟩ := Option.bind_eq_some_iff.mp hm
      obtain ⟨⟨r4, S4⟩, t4, hm⟩ := Option.bind_eq_some_iff.mp hm
      obtain ⟨kk, t5, hm⟩ := Option.bind_eq_some_iff.mp hm
      refine ⟨lk, sp, G3, upd F1 Dl (.lst (ps.map V.ref)), e1.st e1.S, dk, Sk, x3.next g3 Le.rfl w3, t3, fun G4 F4 H4 kv g4 f4 w4 rk => ?_⟩
      have x4 : ER cm lk sp G4 (upd F1 Dl (.lst (ps.map V.ref))) H4 σ3 (e1.st Sk) := x3.next (g3.trans g4) Le.rfl (w4.lessF f4)
      refine ⟨lk, sp, G4, upd F1 Dl (.lst (ps.map V.ref)), _, r4, S4, x4, t4, fun G5 H5 v5 g5 w5 rr => ?_⟩
      split at hm
      · rename_i hh
        obtain ⟨ho, hk⟩ := hh
        unfold ResR at rr
        have ho : r4.own = true := ho
        rw [if_pos ho] at rr
        obtain ⟨p5, u5, rfl, hp5, ob5, gp5, fp5, sp5, nt5⟩ := rr
        have hne : p5 ≠ Dl := fun z => by rw [z, upd_same] at fp5; cases fp5
        have fp1 : F1 p5 = none := by rw [upd_ne hne] at fp5; exact fp5
        have gD5 : G5 Dl = none := w5.fg Dl _ upd_same
        have sD5 : ∀ s, S4 = some s → Dl ≠ sp := fun s q z => by
          have := (w5.sp s q).2.2
          rw [← z, upd_same] at this; cases this
        have gg : Le G' G5 := (((g1.trans g2).trans g3).trans g4).trans g5
        have w5' := w5.keep hp5 gp5 sp5 nt5
        refine ⟨by show 2 ≤ sizeLine; decide, fun t5a ht => ?_⟩
        have gt := w5'.gn ht
        have ft := w5'.fn ht
        have w6 : WR lk sp (upd G5 t5a (.tup [kv, .ref p5])) (upd (upd F1 Dl (.lst (ps.map V.ref))) p5 u5) (upd H5 t5a (.tup [kv, .ref p5])) S4 := (w5'.new ht).still upd_same gt ft (w5'.spn ht)
        have g6 : Le G5 (upd G5 t5a (.tup [kv, .ref p5])) := Le.upd gt
        have eF : Le (upd F1 p5 u5) (upd (upd F1 Dl (.lst (ps.map V.ref))) p5 u5) := fun q u h => by
          by_cases hq : q = p5
          · subst hq; rw [upd_same] at h ⊢; exact h
          · rw [upd_ne hq] at h ⊢; exact fk1 q u h
        have wl := w6.lessF eF
        have ek := rk.key t5
        subst ek
        have hDt : Dl ≠ t5a := fun z => by
          have := w5.fh Dl _ upd_same
          rw [z, ht] at this; cases this
        have hD6 : upd H5 t5a (.tup [kV kk, .ref p5]) Dl = some (.lst (ps.map V.ref)) := by rw [upd_ne hDt]; exact w5.fh Dl _ upd_same
        have ra5 : Rep2 cm (upd G5 t5a (.tup [kV kk, .ref p5])) (upd F1 p5 u5) acc us := ra.mono (((((g2.trans g3).trans g4).trans g5)).trans g6) (Le.upd fp1)
        have nin : ∀ k', (k', V.ref p5) ∉ us := fun k' m => by
          obtain ⟨u', h⟩ := ra.some k' p5 m
          rw [fp1] at h; cases h
        have gD6 : upd G5 t5a (.tup [kV kk, .ref p5]) Dl = none := by rw [upd_ne hDt]; exact gD5
        have lp : ps.length = us.length := Paired.length hpp
        refine ⟨ps.map V.ref, hD6, Nat.lt_of_lt_of_le (by rw [List.length_map, lp, ra.len]; omega : (ps.map V.ref).length < 100001) (by decide), upd G5 t5a (.tup [kV kk, .ref p5]), upd F1 p5 u5, acc ++ [(kk, r4.d)], S4, gg.trans g6, f1.trans (Le.upd fp1), ?_, gD6, by rw [upd_ne hne.symm]; exact fD, sD5,
          by rw [List.length_append]; exact Nat.succ_le_succ hacc, ps ++ [t5a], us ++ [(kk, .ref p5)], by rw [List.map_append]; exact upd_same, Paired.snoc (L2.Paired.mapP hpp fun a b h => g6 _ _ (((((g2.trans g3).trans g4).trans g5)) _ _ h)) upd_same, nodup_snoc hnd hk, ra5.snoc upd_same (ob5.mono g6) nin, fun k q m => ?_, hm⟩
        · have ne : ∀ {q : Addr} {u : HO}, upd G5 t5a (.tup [kV kk, .ref p5]) q = some u → q ≠ Dl := fun {q u} h z => by rw [z, gD6] at h; cases h
          have nf : ∀ {q : Addr} {u : HO}, (upd F1 p5 u5) q = some u → q ≠ Dl := fun {q u} h z => by rw [z, upd_ne hne.symm, fD] at h; cases h
          exact ⟨fun q u h => by rw [upd_ne (ne h)]; exact wl.gh q u h, fun q u h => by rw [upd_ne (nf h)]; exact wl.fh q u h, wl.fg, wl.lg, fun s h => ⟨by rw [upd_ne (sD5 s h).symm]; exact (wl.sp s h).1, (wl.sp s h).2⟩, wl.ft⟩
        · rcases List.mem_append.mp m with m | m
          · exact fr k q m
          · rw [List.mem_singleton] at m
            cases m
            exact f1.none fp1
      · cases hm
    · have e0 : i = ds.length := by omega
      subst e0
      rw [List.drop_eq_nil_of_le (Nat.le_refl _)] at hm
      cases hm
      exact .inl ⟨(fo G1 F1 H1 _ _ g1 w1).2 (Nat.le_refl _), k G1 F1 H1 Dl ps us (g'.trans g1) f1 w1 hDl (L2.Paired.mapP hpp fun a b h => SqT.of (w1.pl h fun z => z)) hnd ra fr⟩
section
variable {X : Cx} {cm : CM} {kx vx tg iter : Expr} {ifs : List Expr} {scope : Scope} {own : List (Str × Nat)} {pos spos p1 p2 p3 p4 : Pos} {T : Tg} {c : TF} {fk : PF} {fv : FE} {n : Nat}
theorem tCB1 {r : List V → Hp → VK → Prop} {t : TE} {σ : St} {H : Hp} {Q : VK} (h : t σ H (fun v H1 => r [v] H1 Q)) : tCB r (tCons t tNil) σ H Q := h
/-- x = dict([(k, v) for ..]), each v a new thing -/
theorem js_set2Dict {s : AF} {i : Nat} {x : Str} (own : List (Str × Nat)) (hc : X.calm = true) (hN : X.N.Nodup) (hi : JI X cm tg iter s) (ok : BlkOk X.N X.env.scope scope own) (hg : BlkE X scope fun Y => JG Y tg T) (hk : BlkE X scope fun Y => JP Y cm kx fk) (he : BlkE X scope fun Y => JE Y cm vx fv)
    (hm : X.mg "dict" = none) (hst1 : BlkE X scope fun Y => starEach [kx, vx] Y.env = (false, eval kx Y.env) :: starEach [vx] Y.env := by intro _ _ _ _ _; rfl) (hst2 : BlkE X scope fun Y => starEach [vx] Y.env = (false, eval vx Y.env) :: starEach [] Y.env := by intro _ _ _ _ _; rfl)
    (hx : X.N[i]? = some x := by rfl) (hl : Loc X.env.scope x := by first | exact Or.inl rfl | exact Or.inr rfl) (hgl : Gl X "dict" := by rfl)
    (hsw : swapsWith (.Call (.Name "dict" p2) [.ListComp (.Tuple [kx, vx] n p3) [⟨tg, iter, [], 0⟩] scope pos] [] p4) (some (.Name x p1)) spos.line X.env = pure false := by rfl)
    (hf : X.fn x = true ∨ X.env.scope.names.lookup x = some .local := by first | exact .inl rfl | exact .inr rfl)
    (hst : starEach [.ListComp (.Tuple [kx, vx] n p3) [⟨tg, iter, [], 0⟩] scope pos] X.env = (false, eval (.ListComp (.Tuple [kx, vx] n p3) [⟨tg, iter, [], 0⟩] scope pos) X.env) :: starEach [] X.env := by rfl) (hpl : (backTo p4 (starEach [] X.env)).any (·.1) = false := by rfl)
    (hs : ∀ x, foldedSetIterable iter X.env x = pure x := by intro _; rfl) : JS X cm (.Assign [.Name x p1] (.Call (.Name "dict" p2) [.ListComp (.Tuple [kx, vx] n p3) [⟨tg, iter, [], 0⟩] scope pos] [] p4) spos) (sSet2 i (f2Dc s T (own.map (·.2)) fk fv)) := by
  obtain ⟨t, p, q⟩ := hi.ex
  have pl := pe_lc (pos := pos) (g := tgT X.K T) (tt := tT cm tYes') (te := tTup (tCons (tP cm fk) (tCons (tE cm fv) tNil))) hc hN p ok hg (fun _ _ _ _ _ => jts_nil) (fun s H C cl fp => pe_tup (x1 := n) (pos := p3) (pa_cons (hk s H C cl fp) (pa_cons (he s H C cl fp) pa_nil (hst2 s H C cl fp)) (hst1 s H C cl fp))) hs
  refine .of ⟨_, ps_set hN hx hl (pe_callTy (call_dictP hc) hgl hm (by decide +kernel) (pa_cons pl pa_nil hst) (by decide) (by decide) hst hpl) hsw hf, ok_set2 fun lk sp G F H σ e ds S' x hf Q k => ?_⟩
  obtain ⟨⟨ds1, S1⟩, z1, hf⟩ := Option.bind_eq_some_iff.mp hf
  split at hf
  · rename_i hcc
    obtain ⟨hz, hvs⟩ := hcc
    refine tCB1 (lcomp_core2 x (fun R k => q lk sp G F H σ e ds1 S1 x z1 R k) hz hvs hf fun G1 F1 H1 p ps ws g1 f1 w1 hp hpr hnd r2 fr => ?_)
    refine ⟨p, ps, ws, rfl, SqL.of hp, hpr, fun b hb => ?_⟩
    have em : mergeK [] ws = ws := by
      rw [mergeK_nodup (by rw [List.map_nil, List.nil_append, r2.nodup]; exact hnd), List.nil_append]
    rw [em]
    exact k G1 F1 _ b ws g1 f1 (w1.new hb) upd_same (w1.gn hb) (w1.fn hb) (w1.spn hb) r2 fr
  · cases hf
end
end Al


set_option Elab.async false
set_option linter.all false
set_option maxRecDepth 100000
/-! Within a dict of own things. -/
namespace Al
open PySem PySem.Spec PyProof.Rows L2
def setK : List (Key × D) → Key → D → List (Key × D)
  | [], _, _ => []
  | (k, d) :: r, k', d' => if k = k' then (k, d') :: r else (k, d) :: setK r k' d'
section
variable {cm : CM} {lk : Addr → Option Obj} {sp : Addr} {G G' F0 F F' H H' : Hp} {σ : St} {e : En}
theorem Rep2.inner {k : Key} {d : D} : ∀ {ds : List (Key × D)} {vs : List (Key × V)}, Rep2 cm G F ds vs → getK ds k = Option.some d →
    ∃ p u, valV vs k = Option.some (.ref p) ∧ (k, V.ref p) ∈ vs ∧ F p = Option.some u ∧ ObjR cm G d u ∧ ∀ d' u', ObjR cm G d' u' → Rep2 cm G (L2.upd F p u') (setK ds k d') vs
  | [], _, _, h => by cases (show (none : Option D) = Option.some d from h)
  | (j, dj) :: ds, _, ⟨q, u, t, e, hq, o, n, b⟩, h => by
    subst e
    by_cases hk : j = k
    · subst hk
      have e1 : getK ((j, dj) :: ds) j = Option.some dj := by simp [getK]
      rw [e1] at h; cases h
      refine ⟨q, u, valV_pos rfl, List.mem_cons_self, hq, o, fun d' u' o' => ?_⟩
      unfold setK
      rw [if_pos rfl]
      exact ⟨q, u', t, rfl, upd_same, o', n, b.upd n⟩
    · have e1 : getK ((j, dj) :: ds) k = getK ds k := by simp [getK, hk]
      rw [e1] at h
      obtain ⟨p, u2, h1, h2, h3, h4, h5⟩ := Rep2.inner (k := k) b h
      have hpq : q ≠ p := fun z => n k (by rw [z]; exact h2)
      refine ⟨p, u2, by rw [valV_neg (p := (j, V.ref q)) hk]; exact h1, List.mem_cons_of_mem _ h2, h3, h4, fun d' u' o' => ?_⟩
      unfold setK
      rw [if_neg hk]
      exact ⟨q, u, t, rfl, by rw [upd_ne hpq]; exact hq, o, n, h5 d' u' o'⟩
theorem SR.own2 {i : Nat} {ds : List (Key × D)} {k : Key} {d : D} (l : Le F0 F) (x : ER cm lk sp G F H σ e) (y : Out F F0 σ e.cs) (hi : e.cs[i]? = some (.own2 ds)) (hk : getK ds k = some d) :
    ∃ q vs p u, σ[i]? = some (some (.ref q)) ∧ F q = some (.dK vs) ∧ valV vs k = some (.ref p) ∧ F p = some u ∧ ObjR cm G d u ∧
      ∀ G' H' S', Le G G' → WR lk sp G' F H' S' → ∀ d' u', ObjR cm G' d' u' → (∀ xs, u' ≠ .tup xs) → SR cm lk sp G' F0 (upd H' p u') σ ((e.st S').put i (.own2 (setK ds k d'))) := by
  obtain ⟨o, hs, q, vs, rfl, hq, np, r⟩ := x.c i _ hi
  obtain ⟨p, u, h1, h2, h3, h4, h5⟩ := r.inner hk
  refine ⟨q, vs, p, u, hs, hq, h1, h3, h4, fun G' H' S' g w d' u' o' nt => ?_⟩
  have hpq : q ≠ p := fun z => np k (by rw [z]; exact h2)
  have own : Ft F (some (.ref q)) (.own2 ds) p := .inr ⟨q, vs, k, rfl, hq, h2⟩
  have x' : ER cm lk sp G' F H' σ (e.st S') := x.next g Le.rfl w
  have f0 : F0 p = none := y i _ _ p hi hs own
  have nf : ∀ (j : Nat) (c : Cell) (o : Option V), j ≠ i → e.cs[j]? = some c → σ[j]? = some o → ¬ Ft F o c p := fun j c o hj a b f => x.s j i c _ o _ p hj a hi b hs f own
  have fi : ∀ {a : Addr}, Ft (upd F p u') (some (.ref q)) (.own2 (setK ds k d')) a → Ft F (some (.ref q)) (.own2 ds) a := fun {a} f => by
    rcases f with f | ⟨q', vs', k', f1, f2, f3⟩
    · exact .inl f
    · cases f1
      rw [upd_ne hpq] at f2
      exact .inr ⟨_, vs', k', rfl, f2, f3⟩
  refine ⟨upd F p u', fun a v h => ?_, ⟨w.setF h3 nt, fun j c a => ?_, fun a b c1 c2 o1 o2 a' hab a1 a2 b1 b2 f1 f2 => ?_, x'.b⟩, fun j c o a a1 b1 f => ?_⟩
  · have ha : a ≠ p := fun z => by rw [z, f0] at h; cases h
    rw [upd_ne ha]; exact l a v h
  · by_cases hj : j = i
    · subst hj
      obtain ⟨rfl, _⟩ := putn a
      refine ⟨_, hs, q, vs, rfl, by rw [upd_ne hpq]; exact hq, np, ?_⟩
      have r' := r.mono g (Le.rfl (G := F))
      obtain ⟨p2, u2, e1, _, _, _, e5⟩ := r'.inner hk
      rw [h1] at e1; cases e1
      exact e5 d' u' o'
    · have a' := putc hj a
      obtain ⟨o, k1, k2⟩ := x'.c j c a'
      exact ⟨o, k1, k2.upd (nf j c o hj a' k1)⟩
  · by_cases ha : a = i
    · subst ha
      obtain ⟨rfl, _⟩ := putn a1
      rw [hs] at b1; cases b1
      have a2' := putc (Ne.symm hab) a2
      exact x.s a b _ c2 _ o2 a' hab hi a2' hs b2 (fi f1) (Ft.upd (nf b c2 o2 (Ne.symm hab) a2' b2) f2)
    · by_cases hb : b = i
      · subst hb
        obtain ⟨rfl, _⟩ := putn a2
        rw [hs] at b2; cases b2
        have a1' := putc ha a1
        exact x.s a b c1 _ o1 _ a' hab a1' hi b1 hs (Ft.upd (nf a c1 o1 ha a1' b1) f1) (fi f2)
      · exact x.s a b c1 c2 o1 o2 a' hab (putc ha a1) (putc hb a2) b1 b2 (Ft.upd (nf a c1 o1 ha (putc ha a1) b1) f1) (Ft.upd (nf b c2 o2 hb (putc hb a2) b2) f2)
  · by_cases hj : j = i
    · subst hj
      obtain ⟨rfl, _⟩ := putn a1
      rw [hs] at b1; cases b1
      exact y j _ _ a hi hs (fi f)
    · have a' := putc hj a1
      exact y j c o a a' b1 (Ft.upd (nf j c o hj a' b1) f)
end
section
variable {X : Cx} {cm : CM} {pos : Pos}
/-- o[k][j] = v -/
def sSt2 (i : Nat) (g : Pu) (fk fj : PF) (fv : FE) : FS := fun e => (fv e).bind fun v => (fk (e.st v.2)).bind fun k => (fj (e.st k.2)).bind fun j => match e.cs[i]? with
  | some (.own2 ds) => (toKey k.1).bind fun kk => (getK ds kk).bind fun d => (g d j.1 v.1.d).map fun d' => (.nx, (e.st j.2).put i (.own2 (setK ds kk d')))
  | _ => none
theorem js_st2 {ev ek ej : Expr} {fv : FE} {fk fj : PF} {p1 p2 p3 : Pos} (i : Nat) {x : Str} (hu : X.A.units + 1 < cLine) (he : JE X cm ev fv) (hk : JP X cm ek fk) (hj : JP X cm ej fj)
    (hN : X.N[i]? = some x := by rfl) (hv : Vis X.env.scope x := by first | exact Or.inl rfl | exact Or.inr (Or.inl rfl) | exact Or.inr (Or.inr rfl)) (hd : (x == ("__debug__" : Str)) = false := by decide)
    (hcd : (x == ("__classdict__" : Str)) = false := by decide) (hns : NoSl ek := by exact fun _ _ => rfl) (hs : swapsWith ev (some (.Subscript (.Subscript (.Name x p1) ek p2) ej p3)) pos.line X.env = pure false := by rfl) :
    JS X cm (.Assign [.Subscript (.Subscript (.Name x p1) ek p2) ej p3] ev pos) (sSt2 i puD fk fj fv) := by
  obtain ⟨tv, v1, v2⟩ := he.ex
  obtain ⟨tk, k1, k2⟩ := hk.ex
  obtain ⟨tj, j1, j2⟩ := hj.ex
  refine .of ⟨_, ps_dput hu (pe_dget hu (pe_var hN hv hd hcd) k1 hns) j1 v1 hs, fun lk sp G F0 H σ e fl e' x hf D k => ?_⟩
  obtain ⟨⟨r, S1⟩, z1, hf⟩ := Option.bind_eq_some_iff.mp hf
  obtain ⟨⟨dk, S2⟩, z2, hf⟩ := Option.bind_eq_some_iff.mp hf
  obtain ⟨⟨dj, S3⟩, z3, hf⟩ := Option.bind_eq_some_iff.mp hf
  obtain ⟨F, l, x, y⟩ := x
  split at hf
  · rename_i ds hd
    obtain ⟨kk, z4, hf⟩ := Option.bind_eq_some_iff.mp hf
    obtain ⟨d, z5, hf⟩ := Option.bind_eq_some_iff.mp hf
    obtain ⟨d', z6, hf⟩ := Option.map_eq_some_iff.mp hf
    cases hf
    obtain ⟨q, vs, p, u, h1, h2, h3, h4, h5, fin⟩ := SR.own2 l x y hd z5
    refine v2 lk sp G F H σ e r S1 x z1 _ fun G1 H1 v g1 w1 r1 => ?_
    obtain ⟨G2, g2, w2, r2⟩ := r1.freeze w1
    refine ⟨.ref q, h1, ?_⟩
    have x2 : ER cm lk sp G2 F H1 σ (e.st S1) := x.next (g1.trans g2) Le.rfl w2
    refine k2 lk sp G2 F H1 σ _ dk S2 x2 z2 _ fun G3 F3 H3 kv g3 f3 w3 r3 => ?_
    have w3' := w3.lessF f3
    have x3 : ER cm lk sp G3 F H3 σ (e.st S2) := x2.next g3 Le.rfl w3'
    refine ⟨q, .ref p, rfl, .inl ⟨vs, kk, .inl (w3'.fh q _ h2), r3.key z4, h3.symm⟩, ?_⟩
    refine j2 lk sp G3 F H3 σ _ dj S3 x3 z3 _ fun G4 F4 H4 jv g4 f4 w4 r4 => ?_
    have w4' := w4.lessF f4
    have gg : Le G G4 := ((g1.trans g2).trans g3).trans g4
    obtain ⟨u', kp, o1, nt⟩ := puD_ok w4 (w4'.fh p u h4) (h5.mono gg) r4 (r2.mono (g3.trans g4) _ _) z6
    exact ⟨p, _, rfl, kp, k G4 _ σ gg (fin G4 H4 S3 gg w4' d' u' o1 nt)⟩
  · cases hf
/-- o[k].m(..) -/
def sMu2 (i : Nat) (g : Mu) (fk : PF) (fa : AF) : FS := fun e => (fk e).bind fun k => (fa (e.st k.2)).bind fun r => match e.cs[i]? with
  | some (.own2 ds) => (toKey k.1).bind fun kk => (getK ds kk).bind fun d => (g d r.1).map fun q => (.nx, (e.st r.2).put i (.own2 (setK ds kk q.2)))
  | _ => none
theorem js_mu2 {T id : String} {m : Str} {r : V → List V → Hp → VK → Prop} {g : Mu} {e ek : Expr} {es : List Expr} {fa : AF} {fk : PF} {p1 p2 p3 p4 : Pos} (i : Nat) {x : Str} (hu : X.A.units + 1 < cLine) (pa : PlainAttrs T) (slot : Slot T m id) (hty : typeOf (.builtin id) = pure (.type "method_descriptor")) (hm : MtR X id r) (hg : MOk cm T r g)
    (hk : JP X cm ek fk) (ha : JK X cm (e :: es) fa)
    (hN : X.N[i]? = some x := by rfl) (hv : Vis X.env.scope x := by first | exact Or.inl rfl | exact Or.inr (Or.inl rfl) | exact Or.inr (Or.inr rfl)) (hd : (x == ("__debug__" : Str)) = false := by decide)
    (hcd : (x == ("__classdict__" : Str)) = false := by decide) (hns : NoSl ek := by exact fun _ _ => rfl) (hbase : attributeBase (.Subscript (.Name x p1) ek p4) m X.env (eval (.Subscript (.Name x p1) ek p4) X.env) = eval (.Subscript (.Name x p1) ek p4) X.env := by rfl)
    (hfew : ((backTo p3 (starEach (e :: es) X.env)).all (fun x => !x.1) && (backToKw p3 (keywordEach [] X.env)).all (fun x => x.1.isSome) && decide ((e :: es).length + ([] : List Keyword).length + (if ([] : List Keyword).isEmpty then 0 else 1) < 30)) = true := by rfl)
    (hline : (p2.endLine == p3.line) = true := by rfl) (hs : starEach (e :: es) X.env = (false, eval e X.env) :: starEach es X.env := by rfl) (hplain : (backTo p3 (starEach es X.env)).any (·.1) = false := by rfl)
    (hsw : swapsWith (.Call (.Attribute (.Subscript (.Name x p1) ek p4) m p2) (e :: es) [] p3) none pos.line X.env = pure false := by rfl) : JS X cm (.Expr (.Call (.Attribute (.Subscript (.Name x p1) ek p4) m p2) (e :: es) [] p3) pos) (sMu2 i g fk fa) := by
  obtain ⟨t, p, q⟩ := ha.ex
  obtain ⟨tk, k1, k2⟩ := hk.ex
  refine .of ⟨_, ps_expr (pe_bm pa slot hty hm (pe_dget hu (pe_var hN hv hd hcd) k1 hns) p hbase hfew hline hs hplain) hsw, fun lk sp G F0 H σ e fl e' x hf D k => ?_⟩
  obtain ⟨⟨dk, S1⟩, z1, hf⟩ := Option.bind_eq_some_iff.mp hf
  obtain ⟨⟨as, S2⟩, z2, hf⟩ := Option.bind_eq_some_iff.mp hf
  obtain ⟨F, l, x, y⟩ := x
  split at hf
  · rename_i ds hd
    obtain ⟨kk, z4, hf⟩ := Option.bind_eq_some_iff.mp hf
    obtain ⟨d, z5, hf⟩ := Option.bind_eq_some_iff.mp hf
    obtain ⟨⟨res, d'⟩, z6, hf⟩ := Option.map_eq_some_iff.mp hf
    cases hf
    obtain ⟨qq, vs, p, u, h1, h2, h3, h4, h5, fin⟩ := SR.own2 l x y hd z5
    refine ⟨.ref qq, h1, ?_⟩
    refine k2 lk sp G F H σ e dk S1 x z1 _ fun G1 F1 H1 kv g1 f1 w1 r1 => ?_
    have w1' := w1.lessF f1
    refine ⟨qq, .ref p, rfl, .inl ⟨vs, kk, .inl (w1'.fh qq _ h2), r1.key z4, h3.symm⟩, ?_⟩
    refine ⟨tyD_ok (w1'.fh p u h4) (h5.mono g1) (hg.1 d as res d' z6), ?_⟩
    have x1 : ER cm lk sp G1 F H1 σ (e.st S1) := x.next g1 Le.rfl w1'
    refine q lk sp G1 F H1 σ _ as S2 x1 z2 _ fun G2 H2 us g2 w2 r2 => ?_
    obtain ⟨u', v, o1, nt, _, k3⟩ := hg.2 G2 H2 d as d' res u p us (w2.fh p u h4) (h5.mono (g1.trans g2)) r2 z6
    exact k3 _ (k G2 _ σ (g1.trans g2) (fin G2 H2 S2 (g1.trans g2) w2 d' u' o1 nt))
  · cases hf
end
end Al


set_option Elab.async false
set_option linter.all false
set_option maxRecDepth 100000
/-! sorted. -/
namespace Al
open PySem PySem.Spec PyProof.Rows L2
open PySem.W (EachIs AllAlike Sortable dataLe keyToks sortLe TotalLe alike sorted_data sortLe_total)
/-! ### data that compares -/
mutual
def toPy : D → PyData
  | .non => .none
  | .bl b => .bool b
  | .int i => .int i
  | .str s => .str s
  | .lst ds => .list (toPys ds)
  | .tup ds => .tuple (toPys ds)
  | _ => .none
def toPys : List D → List PyData
  | [] => []
  | d :: ds => toPy d :: toPys ds
end
mutual
def isPy : D → Bool
  | .non => true
  | .bl _ => true
  | .int _ => true
  | .str _ => true
  | .lst ds => isPys ds
  | .tup ds => isPys ds
  | _ => false
def isPys : List D → Bool
  | [] => true
  | d :: ds => isPy d && isPys ds
end
mutual
theorem Rep.dp {cm : CM} {G H : Hp} {K : PySem.W.Frag} (hg : ∀ p u, G p = some u → ¬ Lockable u → H p = some u) : ∀ (d : D) (v : V), Rep cm G d v → isPy d = true → Dp K H v (toPy d)
  | .non, v, r, _ => by cases (show v = V.non from r); unfold toPy; exact .non
  | .bl b, v, r, _ => by cases (show v = V.bl b from r); unfold toPy; exact .bl b
  | .int b, v, r, _ => by cases (show v = V.int b from r); unfold toPy; exact .int b
  | .str b, v, r, _ => by cases (show v = V.str b from r); unfold toPy; exact .str b
  | .lst ds, _, ⟨p, u, e, hp, vs, e2, r⟩, h => by
    subst e; subst e2
    unfold isPy at h
    unfold toPy
    exact .lst (SqL.of (hg p _ hp fun z => z)) (Reps.dp hg ds vs r h)
  | .tup ds, _, ⟨p, u, e, hp, vs, e2, r⟩, h => by
    subst e; subst e2
    unfold isPy at h
    unfold toPy
    exact .tup (SqT.of (hg p _ hp fun z => z)) (Reps.dp hg ds vs r h)
  | .dk _, _, _, h => by unfold isPy at h; cases h
  | .dt _, _, _, h => by unfold isPy at h; cases h
  | .ins _ _, _, _, h => by unfold isPy at h; cases h
theorem Reps.dp {cm : CM} {G H : Hp} {K : PySem.W.Frag} (hg : ∀ p u, G p = some u → ¬ Lockable u → H p = some u) : ∀ (ds : List D) (vs : List V), Reps cm G ds vs → isPys ds = true → DpAll K H vs (toPys ds)
  | [], vs, r, _ => by cases (show vs = [] from r); unfold toPys; exact .nil
  | d :: ds, _, ⟨v, t, e, a, b⟩, h => by
    subst e
    unfold isPys at h
    rw [Bool.and_eq_true] at h
    unfold toPys
    exact .cons (Rep.dp hg d v a h.1) (Reps.dp hg ds t b h.2)
end
def leD : D → D → Bool := dataLe false toPy
noncomputable def sortD (ds : List D) : List D := ds.mergeSort leD
theorem leD_total : TotalLe leD := sortLe_total (listOrd itemOrd) false fun b => keyToks (toPy b)
theorem sortD_perm (ds : List D) : (sortD ds).Perm ds := List.mergeSort_perm ds leD
theorem sortD_len (ds : List D) : (sortD ds).length = ds.length := (sortD_perm ds).length_eq
theorem sortD_pw (ds : List D) : (sortD ds).Pairwise (fun a b => leD a b = true) :=
  List.pairwise_mergeSort (fun a b c h1 h2 => leD_total.trans a b c h1 h2) (fun a b => by rcases leD_total.total a b with h | h <;> simp [h]) ds
theorem leD_anti {a b : D} (h1 : leD a b = true) (h2 : leD b a = true) : keyToks (toPy a) = keyToks (toPy b) := by
  unfold leD dataLe sortLe at h1 h2
  simp only [cond_false, Bool.not_eq_true'] at h1 h2
  exact ((listOrd itemOrd).total _ _ h1 h2).symm
theorem perm_sorted {le : D → D → Bool} : ∀ {as bs : List D}, as.Perm bs → as.Pairwise (fun a b => le a b = true) → bs.Pairwise (fun a b => le a b = true) → (∀ a ∈ as, ∀ b ∈ as, le a b = true → le b a = true → a = b) → as = bs
  | [], bs, p, _, _, _ => by rw [List.nil_perm] at p; exact p.symm
  | a :: as, [], p, _, _, _ => by have := p.length_eq; cases this
  | a :: as, b :: bs, p, h1, h2, anti => by
    have e : a = b := by
      have ha : a ∈ b :: bs := p.subset List.mem_cons_self
      have hb : b ∈ a :: as := p.symm.subset List.mem_cons_self
      rcases List.mem_cons.mp ha with e | ha'
      · exact e
      · rcases List.mem_cons.mp hb with e | hb'
        · exact e.symm
        · exact anti a List.mem_cons_self b hb ((List.pairwise_cons.mp h1).1 b hb') ((List.pairwise_cons.mp h2).1 a ha')
    subst e
    rw [perm_sorted ((List.perm_cons a).mp p) (List.pairwise_cons.mp h1).2 (List.pairwise_cons.mp h2).2 fun x hx y hy => anti x (List.mem_cons_of_mem _ hx) y (List.mem_cons_of_mem _ hy)]
/-! ### sorted(xs) -/
theorem each_vals {R : V → D → Prop} : ∀ {vs : List V} {us : List Value} {ds : List D}, Vals vs us → EachIs R vs ds → EachIs (fun u d => ∃ v, RelV v u ∧ R v d) us ds
  | [], _, _, r, e => by cases r; cases e; exact .nil
  | v :: vs, _, _, r, e => by
    cases r with
    | cons r1 r2 => cases e with
      | cons e1 e2 => exact .cons ⟨v, r1, e1⟩ (each_vals r2 e2)
theorem each_back {R : V → D → Prop} : ∀ {us : List Value} {ds : List D}, EachIs (fun u d => ∃ v, RelV v u ∧ R v d) us ds → ∃ vs, Vals vs us ∧ EachIs R vs ds
  | [], _, e => by cases e; exact ⟨[], .nil, .nil⟩
  | u :: us, _, e => by
    cases e with
    | cons e1 e2 =>
      obtain ⟨v, r, h⟩ := e1
      obtain ⟨vs, rs, hs⟩ := each_back e2
      exact ⟨v :: vs, .cons r rs, .cons h hs⟩
def rSortX (K : PySem.W.Frag) : List V → Hp → VK → Prop := fun xs H Q => ∃ (a : Addr) (vs : List V) (ds : List D) (R : V → D → Prop), xs = [.ref a] ∧ SqL K H a vs ∧ EachIs R vs ds ∧ EachIs (fun v d => Dp K H v (toPy d)) vs ds ∧ AllAlike (ds.map toPy) ∧ Sortable (ds.map toPy) ∧ (∀ d ∈ ds, (toPy d).depth ≤ 60) ∧
  ∀ out p, EachIs R out (sortD ds) → H p = none → Q (.ref p) (upd H p (.lst out))
theorem each_map2 {α β : Type} {R S : α → β → Prop} (h : ∀ a b, R a b → S a b) : ∀ {as : List α} {bs : List β}, EachIs R as bs → EachIs S as bs
  | _, _, .nil => .nil
  | _, _, .cons r t => .cons (h _ _ r) (each_map2 h t)
section
variable {X : Cx} {cm : CM}
theorem call_sortX (hu : X.A.units + 64 < cLine) : CallR X (.builtin "sorted") (rSortX X.K) := by
  intro pins s σ H xs us Q I r h
  obtain ⟨a, vs, ds, R, rfl, hs, hR, hD, hal, hk, hdp, q⟩ := h
  obtain ⟨its, rv, hl, hz⟩ := I.list hs
  rw [Vals.ref1 r]
  have eR := each_vals rv hR
  have eD := each_vals rv hD
  refine sorted_data (enc := toPy) (R := fun u d => ∃ v, RelV v u ∧ R v d) hl.isList eR (each_map2 (fun u d ⟨v, r, h⟩ => Dp.reads I _ v u h r) eD) hal hk (by rw [← eR.length, ← rv.length]; exact hz) (fun b hb => Nat.lt_of_le_of_lt (by have := hdp b hb; omega : X.A.units + 2 + (toPy b).depth ≤ X.A.units + 64) hu) fun out h1 h2 => ?_
  obtain ⟨ws, rw', hw⟩ := each_back h2
  obtain ⟨ep, he'⟩ := PyProof.Rows.sortedAll_at s.heap its out.toArray
  have hlen : ws.length ≤ sizeLine := by
    rw [rw'.length, h1, ← eR.length, ← rv.length]; exact hz
  exact ⟨.ref _, upd H (s.heap.objs.size + 1) (.lst ws), I.laid (t' := s.toks) (fun _ _ => PyProof.Rows.sortedAll_old) (Nat.le_succ _) ⟨hlen, out, ep, rw', he'⟩, rfl, q ws _ hw (I.hok.fresh (Nat.le_succ _))⟩

theorem each_reps {G : Hp} : ∀ {vs : List V} {ds : List D}, EachIs (fun v d => Rep cm G d v) vs ds → Reps cm G ds vs
  | _, _, .nil => rfl
  | _, _, .cons r t => ⟨_, _, rfl, r, each_reps t⟩
theorem reps_each {G : Hp} : ∀ {ds : List D} {vs : List V}, Reps cm G ds vs → EachIs (fun v d => Rep cm G d v) vs ds
  | [], _, r => by obtain rfl : _ = [] := r; exact .nil
  | d :: ds, _, ⟨v, t, e, a, b⟩ => by subst e; exact .cons a (reps_each b)
theorem reps_eachD {G H : Hp} {K : PySem.W.Frag} (hg : ∀ p u, G p = some u → ¬ Lockable u → H p = some u) : ∀ {ds : List D} {vs : List V}, Reps cm G ds vs → isPys ds = true → EachIs (fun v d => Dp K H v (toPy d)) vs ds
  | [], _, r, _ => by obtain rfl : _ = [] := r; exact .nil
  | d :: ds, _, ⟨v, t, e, a, b⟩, h => by
    subst e
    unfold isPys at h
    rw [Bool.and_eq_true] at h
    exact .cons (Rep.dp hg d v a h.1) (reps_eachD hg b h.2)
structure SortOk (ds : List D) : Prop where
  py : isPys ds = true
  al : AllAlike (ds.map toPy)
  so : Sortable (ds.map toPy)
  dp : ∀ d ∈ ds, (toPy d).depth ≤ 60
open Classical in
noncomputable def bSortL : Fb
  | [.lst ds] => if SortOk ds then some (nw (.lst (sortD ds))) else none
  | _ => none
theorem jc_sortL (hu : X.A.units + 64 < cLine) : JC X cm (.builtin "sorted") bSortL := ⟨_, call_sortX hu, fun lk sp G F H S ds vs res w rr hg Q q => by
  unfold bSortL at hg
  split at hg
  · split at hg
    · rename_i h
      cases hg
      obtain ⟨v, rfl, r⟩ := rr.one
      obtain ⟨p, us, rfl, hp, r2⟩ := r.lst w
      refine ⟨p, us, _, (fun v d => Rep cm G d v), rfl, SqL.of hp, reps_each r2, reps_eachD (fun p u a b => w.pl a b) r2 h.py, h.al, h.so, h.dp, fun out b ho hb => ?_⟩
      exact q G _ _ Le.rfl (w.new hb) (ResR.nw upd_same ⟨out, rfl, each_reps ho⟩ (w.gn hb) (w.fn hb) (w.spn hb))
    · cases hg
  · cases hg⟩
/-- a dict of strings, sorted -/
def strsK : List (Key × D) → Option (List Str)
  | [] => some []
  | (.inr s, _) :: r => (strsK r).map fun t => s :: t
  | _ :: _ => none
theorem strsK_keys : ∀ {ds : List (Key × D)} {ss : List Str}, strsK ds = some ss → DK.keys ds = ss.map D.str ∧ ds.map (·.1) = ss.map Sum.inr
  | [], ss, h => by cases h; exact ⟨rfl, rfl⟩
  | (.inr s, d) :: r, ss, h => by
    unfold strsK at h
    obtain ⟨t, h1, rfl⟩ := Option.map_eq_some_iff.mp h
    obtain ⟨a, b⟩ := strsK_keys h1
    exact ⟨by unfold DK.keys at a ⊢; rw [List.map_cons, List.map_cons, a], by rw [List.map_cons, List.map_cons, b]⟩
  | (.inl s, d) :: r, ss, h => by cases h
theorem leD_str (a b : Str) : leD (.str a) (.str b) = !ltCps b.cps.toList a.cps.toList := by
  have e : leD (.str a) (.str b) = decide (a.cps.toList ≤ b.cps.toList) := by
    show dataLe false toPy (.str a) (.str b) = _
    have := congrFun (congrFun (PySem.W.dataLe_str (β := Str) fun s => s) a) b
    rw [← this]
    unfold dataLe sortLe
    simp only [toPy]
  rw [e, PyProof.Rows.ltCps_eq]
  by_cases h : a.cps.toList ≤ b.cps.toList
  · rw [decide_eq_true h, decide_eq_false (by rw [List.not_lt]; exact h)]; rfl
  · rw [decide_eq_false h, decide_eq_true (by rw [← List.not_le]; exact h)]; rfl
theorem leD_int (a b : Int) : leD (.int a) (.int b) = decide (a ≤ b) := by
  show dataLe false toPy (.int a) (.int b) = _
  have := congrFun (congrFun (PySem.W.dataLe_int (β := Int) fun s => s) a) b
  rw [← this]
  unfold dataLe sortLe
  simp only [toPy]
theorem str_inj {a b : Str} (h : keyToks (toPy (.str a)) = keyToks (toPy (.str b))) : a = b := by
  simp only [toPy, keyToks] at h
  have h2 : a.cps.toList = b.cps.toList := by simpa using h
  exact PySem.W.str_of_cps h2
theorem risingS_pw : ∀ (p : Str) (r : List Str), risingS p r = true → (p :: r).Pairwise fun a b => leD (.str a) (.str b) = true
  | p, [], _ => List.pairwise_singleton _ _
  | p, x :: r, h => by
    unfold risingS at h
    rw [Bool.and_eq_true] at h
    have ih := risingS_pw x r h.2
    refine List.pairwise_cons.mpr ⟨fun y hy => ?_, ih⟩
    have h1 : leD (.str p) (.str x) = true := by rw [leD_str]; exact h.1
    rcases List.mem_cons.mp hy with e | hy
    · subst e; exact h1
    · exact leD_total.trans _ _ _ h1 ((List.pairwise_cons.mp ih).1 y hy)
theorem sortedS_pw : ∀ {l : List Str}, sortedS l = true → (l.map D.str).Pairwise fun a b => leD a b = true
  | [], _ => List.Pairwise.nil
  | p :: r, h => by
    rw [List.pairwise_map]
    exact risingS_pw p r h
theorem sorted_strs_uniq {ks ys : List Str} (p : ys.Perm ks) (h : sortedS ys = true) : ys.map D.str = sortD (ks.map D.str) := by
  refine perm_sorted ((p.map D.str).trans (sortD_perm _).symm) (sortedS_pw h) (sortD_pw _) fun a ha b hb h1 h2 => ?_
  obtain ⟨x, _, rfl⟩ := List.mem_map.mp ha
  obtain ⟨y, _, rfl⟩ := List.mem_map.mp hb
  rw [str_inj (leD_anti h1 h2)]
theorem reps_strs {G : Hp} : ∀ (ys : List Str), Reps cm G (ys.map D.str) (ys.map V.str)
  | [] => rfl
  | y :: ys => ⟨_, _, rfl, rfl, reps_strs ys⟩
theorem RepK.fsts {G : Hp} : ∀ {ds : List (Key × D)} {vs : List (Key × V)}, RepK cm G ds vs → vs.map (·.1) = ds.map (·.1)
  | [], _, r => by obtain rfl : _ = [] := r; rfl
  | (k, d) :: ds, _, ⟨v, t, e, _, b⟩ => by subst e; rw [List.map_cons, List.map_cons, RepK.fsts b]
noncomputable def bSortD : Fb
  | [.dk kvs] => (strsK kvs).bind fun ss => if ss.length < 64 then some (nw (.lst (sortD (ss.map D.str)))) else none
  | _ => none
theorem jc_sortD (hc : X.calm = true) : JC X cm (.builtin "sorted") bSortD := ⟨_, call_sortedD hc, fun lk sp G F H S ds vs res w rr hg Q q => by
  unfold bSortD at hg
  split at hg
  · obtain ⟨ss, h1, hg⟩ := Option.bind_eq_some_iff.mp hg
    split at hg
    · rename_i hl
      cases hg
      obtain ⟨v, rfl, r⟩ := rr.one
      obtain ⟨p, us, rfl, hp, r2⟩ := r.dk w
      refine ⟨p, us, ss, rfl, hp, by rw [r2.fsts]; exact (strsK_keys h1).2, hl, fun ys b p1 p2 hb => ?_⟩
      exact q G _ _ Le.rfl (w.new hb) (ResR.nw upd_same ⟨ys.map V.str, rfl, by rw [← sorted_strs_uniq p1 p2]; exact reps_strs ys⟩ (w.gn hb) (w.fn hb) (w.spn hb))
    · cases hg
  · cases hg⟩
end
end Al


set_option Elab.async false
set_option linter.all false
set_option maxRecDepth 100000
/-! min, max of two strings; isinstance; calls. -/
namespace Al
open PySem PySem.Spec PyProof.Rows L2
section
variable {prog : Program} {w : World} {A : Around} {E : Value → Shared → Prop} {s : Shared}
def cpsOf : Value → List Nat
  | .str x _ => x.cps.toList
  | _ => []
theorem cmpS_lt (vs : Array Value) (hn : ∀ v ∈ vs, ∃ x t, v = Value.str x t) :
    CmpOf prog w A .Lt (fun i v => vs[i]? = some v) (fun i j => decide (cpsOf (vs.getD i .none) < cpsOf (vs.getD j .none))) := fun i j vi vj s Q E hi hj h => by
  have e1 : vs.getD i .none = vi := by simp [Array.getD_eq_getD_getElem?, hi]
  have e2 : vs.getD j .none = vj := by simp [Array.getD_eq_getD_getElem?, hj]
  simp only [e1, e2] at h
  obtain ⟨x, t, rfl⟩ := hn _ (Array.mem_of_getElem? hi)
  obtain ⟨y, u, rfl⟩ := hn _ (Array.mem_of_getElem? hj)
  exact richCompare_gives (op := .Lt) (typeIs_str s x t) (typeIs_str s y u) F.slot_str_lt F.entry_str_lt (F.args_str_lt_2 _ _) (gives_str_lt x y t u) (fun e => nomatch e) h
theorem cmpS_gt (vs : Array Value) (hn : ∀ v ∈ vs, ∃ x t, v = Value.str x t) :
    CmpOf prog w A .Gt (fun i v => vs[i]? = some v) (fun i j => decide (cpsOf (vs.getD j .none) < cpsOf (vs.getD i .none))) := fun i j vi vj s Q E hi hj h => by
  have e1 : vs.getD i .none = vi := by simp [Array.getD_eq_getD_getElem?, hi]
  have e2 : vs.getD j .none = vj := by simp [Array.getD_eq_getD_getElem?, hj]
  simp only [e1, e2] at h
  obtain ⟨x, t, rfl⟩ := hn _ (Array.mem_of_getElem? hi)
  obtain ⟨y, u, rfl⟩ := hn _ (Array.mem_of_getElem? hj)
  exact richCompare_gives (op := .Gt) (typeIs_str s x t) (typeIs_str s y u) F.slot_str_gt F.entry_str_gt (F.args_str_gt_2 _ _) (gives_str_gt x y t u) (fun e => nomatch e) h
theorem min_two_strs {Q : Value → Shared → Prop} {x y : Str} {t u : Tok} (hh : A.handled = none)
    (h : ∀ h' tk, (∀ c o, s.heap.get? c = some o → h'.get? c = some o) → Q (if y.cps.toList < x.cps.toList then .str y u else .str x t) { s with heap := h', toks := tk }) :
    wpAny (model prog w) A (call (.builtin "min") [.str x t, .str y u]) Q E s := by
  have hT : (s.heap.push { cls := .type "tuple", data := .seq #[.str x t, .str y u] }).IsTuple s.heap.objs.size #[.str x t, .str y u] := ⟨_, Heap.get?_push_size _ rfl, rfl, 0, rfl⟩
  refine call_min_two (wpAny_pyIter_tuple hT ?_)
  have hsz : (s.heap.push { cls := .type "tuple", data := .seq #[.str x t, .str y u] }).objs.size = s.heap.objs.size + 1 := Heap.size_push ..
  refine ⟨_, [_, s.heap.objs.size], [_], _, _, _, _, rfl, Walks.tuple (A := A.in1) hh _ s.heap.objs.size (by rw [hsz]; exact Nat.ne_of_lt (Nat.lt_succ_self _)) #[.str x t, .str y u],
    ⟨⟨_, Heap.get?_push_size _ rfl, rfl, rfl⟩, hT.push _⟩, fun c hc => ?_, by simp, cmpS_lt #[.str x t, .str y u] (by simp), fun v h' tk hP hk => ?_⟩
  · show c < ((s.heap.push _).push _).objs.size
    rw [Heap.size_push, hsz]
    rcases List.mem_cons.mp hc with rfl | hc
    · rw [hsz]; exact Nat.lt_succ_self _
    · rcases List.mem_cons.mp hc with rfl | hc
      · exact Nat.lt_succ_of_lt (Nat.lt_succ_self _)
      · cases hc
  · have hold : ∀ c o, s.heap.get? c = some o → h'.get? c = some o := fun c o e => by
      refine hk c o (fun hm => ?_) (Heap.get?_push_of_some _ (Heap.get?_push_of_some _ e))
      rcases List.mem_cons.mp hm with e1 | hm
      · have := Heap.lt_size e; rw [e1, hsz] at this; exact Nat.lt_irrefl _ (Nat.lt_of_succ_lt this)
      · cases hm
    have := h h' tk hold
    have hv : v = if y.cps.toList < x.cps.toList then .str y u else .str x t := by
      by_cases hc : y.cps.toList < x.cps.toList <;> simp [argBest, cpsOf, hc] at hP <;> simp [hP, hc]
    rw [hv]; exact this
theorem max_two_strs {Q : Value → Shared → Prop} {x y : Str} {t u : Tok} (hh : A.handled = none)
    (h : ∀ h' tk, (∀ c o, s.heap.get? c = some o → h'.get? c = some o) → Q (if x.cps.toList < y.cps.toList then .str y u else .str x t) { s with heap := h', toks := tk }) :
    wpAny (model prog w) A (call (.builtin "max") [.str x t, .str y u]) Q E s := by
  have hT : (s.heap.push { cls := .type "tuple", data := .seq #[.str x t, .str y u] }).IsTuple s.heap.objs.size #[.str x t, .str y u] := ⟨_, Heap.get?_push_size _ rfl, rfl, 0, rfl⟩
  refine call_max_two (wpAny_pyIter_tuple hT ?_)
  have hsz : (s.heap.push { cls := .type "tuple", data := .seq #[.str x t, .str y u] }).objs.size = s.heap.objs.size + 1 := Heap.size_push ..
  refine ⟨_, [_, s.heap.objs.size], [_], _, _, _, _, rfl, Walks.tuple (A := A.in1) hh _ s.heap.objs.size (by rw [hsz]; exact Nat.ne_of_lt (Nat.lt_succ_self _)) #[.str x t, .str y u],
    ⟨⟨_, Heap.get?_push_size _ rfl, rfl, rfl⟩, hT.push _⟩, fun c hc => ?_, by simp, cmpS_gt #[.str x t, .str y u] (by simp), fun v h' tk hP hk => ?_⟩
  · show c < ((s.heap.push _).push _).objs.size
    rw [Heap.size_push, hsz]
    rcases List.mem_cons.mp hc with rfl | hc
    · rw [hsz]; exact Nat.lt_succ_self _
    · rcases List.mem_cons.mp hc with rfl | hc
      · exact Nat.lt_succ_of_lt (Nat.lt_succ_self _)
      · cases hc
  · have hold : ∀ c o, s.heap.get? c = some o → h'.get? c = some o := fun c o e => by
      refine hk c o (fun hm => ?_) (Heap.get?_push_of_some _ (Heap.get?_push_of_some _ e))
      rcases List.mem_cons.mp hm with e1 | hm
      · have := Heap.lt_size e; rw [e1, hsz] at this; exact Nat.lt_irrefl _ (Nat.lt_of_succ_lt this)
      · cases hm
    have := h h' tk hold
    have hv : v = if x.cps.toList < y.cps.toList then .str y u else .str x t := by
      by_cases hc : x.cps.toList < y.cps.toList <;> simp [argBest, cpsOf, hc] at hP <;> simp [hP, hc]
    rw [hv]; exact this
end
section
variable {X : Cx} {cm : CM} {a : Expr} {pos p p1 p2 : Pos}
def rMinS : List V → Hp → VK → Prop := fun xs H Q => ∃ x y, xs = [.str x, .str y] ∧ Q (.str (if y.cps.toList < x.cps.toList then y else x)) H
def rMaxS : List V → Hp → VK → Prop := fun xs H Q => ∃ x y, xs = [.str x, .str y] ∧ Q (.str (if x.cps.toList < y.cps.toList then y else x)) H
theorem call_minS (hc : X.calm = true) : CallR X (.builtin "min") rMinS := by
  intro pins s σ H xs us Q I r h
  obtain ⟨x, y, rfl, q⟩ := h
  obtain ⟨u, w', rfl, ⟨t, rfl⟩, ⟨t', rfl⟩⟩ := vals2 r
  refine min_two_strs (I.ok.hd hc) fun h' tk k => ⟨_, H, I.kept k, ?_, q⟩
  by_cases hj : y.cps.toList < x.cps.toList
  · rw [if_pos hj, if_pos hj]; exact ⟨_, rfl⟩
  · rw [if_neg hj, if_neg hj]; exact ⟨_, rfl⟩
theorem call_maxS (hc : X.calm = true) : CallR X (.builtin "max") rMaxS := by
  intro pins s σ H xs us Q I r h
  obtain ⟨x, y, rfl, q⟩ := h
  obtain ⟨u, w', rfl, ⟨t, rfl⟩, ⟨t', rfl⟩⟩ := vals2 r
  refine max_two_strs (I.ok.hd hc) fun h' tk k => ⟨_, H, I.kept k, ?_, q⟩
  by_cases hj : x.cps.toList < y.cps.toList
  · rw [if_pos hj, if_pos hj]; exact ⟨_, rfl⟩
  · rw [if_neg hj, if_neg hj]; exact ⟨_, rfl⟩
def bMinS : Fb
  | [.str x, .str y] => some (fz (.str (if y.cps.toList < x.cps.toList then y else x)))
  | _ => none
def bMaxS : Fb
  | [.str x, .str y] => some (fz (.str (if x.cps.toList < y.cps.toList then y else x)))
  | _ => none
def bMinI : Fb
  | [.int x, .int y] => some (fz (.int (if y < x then y else x)))
  | _ => none
def bMaxI : Fb
  | [.int x, .int y] => some (fz (.int (if y > x then y else x)))
  | _ => none
theorem RepTs.two {G F : Hp} {d e : D} {vs : List V} (h : RepTs cm G F [d, e] vs) : ∃ v w, vs = [v, w] ∧ RepT cm G F d v ∧ RepT cm G F e w := by
  obtain ⟨v, _, rfl, a, w, _, rfl, b, rfl⟩ := h
  exact ⟨v, w, rfl, a, b⟩
theorem jc_minS (hc : X.calm = true) : JC X cm (.builtin "min") bMinS := ⟨_, call_minS hc, fun lk sp G F H S ds vs res w rr hg Q q => by
  unfold bMinS at hg
  split at hg
  · cases hg
    obtain ⟨v, w', rfl, a, b⟩ := rr.two
    rw [a.str, b.str]
    exact ⟨_, _, rfl, q G H _ Le.rfl w (ResR.fz rfl)⟩
  · cases hg⟩
theorem jc_maxS (hc : X.calm = true) : JC X cm (.builtin "max") bMaxS := ⟨_, call_maxS hc, fun lk sp G F H S ds vs res w rr hg Q q => by
  unfold bMaxS at hg
  split at hg
  · cases hg
    obtain ⟨v, w', rfl, a, b⟩ := rr.two
    rw [a.str, b.str]
    exact ⟨_, _, rfl, q G H _ Le.rfl w (ResR.fz rfl)⟩
  · cases hg⟩
theorem jc_minI (hc : X.calm = true) : JC X cm (.builtin "min") bMinI := ⟨_, call_min2 hc, fun lk sp G F H S ds vs res w rr hg Q q => by
  unfold bMinI at hg
  split at hg
  · cases hg
    obtain ⟨v, w', rfl, a, b⟩ := rr.two
    rw [a.int, b.int]
    exact ⟨_, _, rfl, q G H _ Le.rfl w (ResR.fz rfl)⟩
  · cases hg⟩
theorem jc_maxI (hc : X.calm = true) : JC X cm (.builtin "max") bMaxI := ⟨_, call_max2 hc, fun lk sp G F H S ds vs res w rr hg Q q => by
  unfold bMaxI at hg
  split at hg
  · cases hg
    obtain ⟨v, w', rfl, a, b⟩ := rr.two
    rw [a.int, b.int]
    exact ⟨_, _, rfl, q G H _ Le.rfl w (ResR.fz rfl)⟩
  · cases hg⟩
/-! ### isinstance, of built-in classes -/
def tyN : D → Option String
  | .non => some "NoneType"
  | .bl _ => some "bool"
  | .int _ => some "int"
  | .str _ => some "str"
  | .lst _ => some "list"
  | .tup _ => some "tuple"
  | .dk _ => some "dict"
  | _ => none
def isT (T a : String) : Bool := a == T || (a == "bool" && T == "int")
def tyNames : List String := ["NoneType", "bool", "int", "str", "list", "tuple", "dict"]
theorem kit_all : ∀ a ∈ tyNames, ∀ T ∈ tyNames, kitB a T = some (isT T a) := by decide +kernel
theorem tyN_mem {d : D} {a : String} (h : tyN d = some a) : a ∈ tyNames := by
  cases d <;> first | (cases h; decide) | cases h
theorem tyX_of {K : PySem.W.Frag} {lk : Addr → Option Obj} {sp : Addr} {G F H : Hp} {S : Option Spr} {d : D} {v : V} {a : String} (w : WR lk sp G F H S) (r : RepT cm G F d v) (h : tyN d = some a) : TyX K H v (.type a) := by
  cases d with
  | non => cases h; rw [r.non]; exact .base .non
  | bl b => cases h; rw [r.bl]; exact .base (.bl b)
  | int b => cases h; rw [r.int]; exact .base (.int b)
  | str b => cases h; rw [r.str]; exact .base (.str b)
  | lst ds => cases h; obtain ⟨p, vs, rfl, hp, _⟩ := r.lst w; exact .base (.lst hp)
  | tup ds => cases h; obtain ⟨p, vs, rfl, hp, _⟩ := r.tup w; exact .base (.tup hp)
  | dk ds =>
    cases h
    obtain ⟨p, vs, rfl, hp, _⟩ := r.dk w
    rcases hp with hp | ⟨o, hp⟩
    · exact .base (.dK hp)
    · exact .fDict hp
  | _ => cases h
def tyA : List String → TA
  | [] => tNil
  | T :: Ts => tCons (tC (.ty T)) (tyA Ts)
theorem tyA_run {Ts : List String} {σ : St} {H : Hp} {Q : List V → Hp → Prop} (h : Q (Ts.map V.ty) H) : tyA Ts σ H Q := by
  induction Ts generalizing Q with
  | nil => exact h
  | cons T Ts ih => exact ih (Q := fun xs H1 => Q (V.ty T :: xs) H1) h
theorem kit_any {K : PySem.W.Frag} {a : String} (ha : a ∈ tyNames) : ∀ {Ts : List String}, (∀ T ∈ Ts, T ∈ tyNames) → PySem.W.kitAny K (.type a) (Ts.map Value.type) = some (Ts.any fun T => isT T a)
  | [], _ => rfl
  | T :: Ts, h => by
    refine kitAny_cons (kit_ty (kit_all a ha T (h T List.mem_cons_self))) (fun e => ?_) (fun e => ?_)
    · rw [List.any_cons, e, Bool.false_or]; exact kit_any ha fun T hT => h T (List.mem_cons_of_mem _ hT)
    · rw [List.any_cons, e]; rfl
theorem clsv_all : ∀ (Ts : List String), Paired ClsV (Ts.map V.ty) (Ts.map Value.type)
  | [] => .nil
  | T :: Ts => .cons (.ty T) (clsv_all Ts)
def fIsi (Ts : List String) (f : PF) : FE := fun e => (f e).bind fun r => (tyN r.1).map fun a => (fz (.bl (Ts.any fun T => isT T a)), r.2)
theorem j_isi {x : Str} (T : String) {f : PF} (ha : JP X cm a f) (hm : X.mg "isinstance" = none) (hmx : X.mg x = none) (hT : T ∈ tyNames := by decide) (hg : Gl X "isinstance" := by rfl) (hgx : Gl X x := by rfl) (hv : bootBuiltins x = some (.type T) := by decide +kernel) (hn : x ≠ "__name__" := by decide) (hdb : (x == ("__debug__" : Str)) = false := by decide)
    (he : starEach [a, .Name x p1] X.env = (false, eval a X.env) :: starEach [.Name x p1] X.env := by rfl) (he2 : starEach [.Name x p1] X.env = (false, eval (.Name x p1) X.env) :: starEach [] X.env := by rfl) (hpl : (backTo pos (starEach [.Name x p1] X.env)).any (·.1) = false := by rfl) :
    JE X cm (.Call (.Name "isinstance" p) [a, .Name x p1] [] pos) (fIsi [T] f) := by
  obtain ⟨t, q1, q⟩ := ha.ex
  refine .of ⟨_, pe_callB call_isi hg hm (by decide +kernel) (pa_cons q1 (pa_cons (pe_bltn hgx hmx hv (v := .ty T) rfl hn hdb) pa_nil he2) he) (by decide) (by decide) he hpl, fun lk sp G F H σ e r S' x hf Q k => ?_⟩
  obtain ⟨⟨d, S1⟩, z1, hf⟩ := Option.bind_eq_some_iff.mp hf
  obtain ⟨aa, z2, hf⟩ := Option.map_eq_some_iff.mp hf
  cases hf
  refine q lk sp G F H σ e d S1 x z1 _ fun G1 F1 H1 v g1 f1 w1 r1 => ?_
  have hk := kit_all aa (tyN_mem z2) T hT
  refine ⟨v, .ty T, .type aa, .type T, isT T aa, rfl, .ty T, tyX_of w1 r1 z2, kit_ty hk, ?_⟩
  have : (List.any [T] fun T => isT T aa) = isT T aa := by simp
  rw [this] at k
  exact k G1 H1 _ g1 (w1.lessF f1) (ResR.fz rfl)
theorem j_isiT {es : List Expr} {kk : Nat} (Ts : List String) {f : PF} (ha : JP X cm a f) (hm : X.mg "isinstance" = none) (hes : PA X es (tyA Ts)) (hT : ∀ T ∈ Ts, T ∈ tyNames := by decide) (hl : Ts.length ≤ 100 := by decide) (hg : Gl X "isinstance" := by rfl)
    (he : starEach [a, .Tuple es kk p1] X.env = (false, eval a X.env) :: starEach [.Tuple es kk p1] X.env := by rfl) (he2 : starEach [.Tuple es kk p1] X.env = (false, eval (.Tuple es kk p1) X.env) :: starEach [] X.env := by rfl) (hpl : (backTo pos (starEach [.Tuple es kk p1] X.env)).any (·.1) = false := by rfl) :
    JE X cm (.Call (.Name "isinstance" p) [a, .Tuple es kk p1] [] pos) (fIsi Ts f) := by
  obtain ⟨t, q1, q⟩ := ha.ex
  refine .of ⟨_, pe_callB call_isiT hg hm (by decide +kernel) (pa_cons q1 (pa_cons (pe_tup hes) pa_nil he2) he) (by decide) (by decide) he hpl, fun lk sp G F H σ e r S' x hf Q k => ?_⟩
  obtain ⟨⟨d, S1⟩, z1, hf⟩ := Option.bind_eq_some_iff.mp hf
  obtain ⟨aa, z2, hf⟩ := Option.map_eq_some_iff.mp hf
  cases hf
  refine q lk sp G F H σ e d S1 x z1 _ fun G1 F1 H1 v g1 f1 w1 r1 => ?_
  refine tyA_run ⟨by rw [List.length_map]; exact Nat.le_trans hl (by decide), fun b hb => ?_⟩
  have w2 := w1.new (o := .tup (Ts.map V.ty)) hb
  exact ⟨v, b, Ts.map V.ty, .type aa, Ts.map Value.type, Ts.any fun T => isT T aa, rfl, upd_same, clsv_all Ts, tyX_of w2 r1 z2, kit_any (tyN_mem z2) hT, k G1 _ _ g1 (w2.lessF f1) (ResR.fz rfl)⟩
theorem pa_ty {x : Str} {T : String} {es : List Expr} {Ts : List String} (h : PA X es (tyA Ts)) (hm : X.mg x = none) (hg : Gl X x := by rfl) (hv : bootBuiltins x = some (.type T) := by decide +kernel) (hn : x ≠ "__name__" := by decide) (hdb : (x == ("__debug__" : Str)) = false := by decide)
    (hs : starEach (.Name x p1 :: es) X.env = (false, eval (.Name x p1) X.env) :: starEach es X.env := by rfl) : PA X (.Name x p1 :: es) (tyA (T :: Ts)) := pa_cons (pe_bltn hg hm hv (v := .ty T) rfl hn hdb) h hs
end
end Al


set_option Elab.async false
set_option linter.all false
set_option maxRecDepth 100000
/-! list(d.items()), sorted(d.values()). -/
namespace Al
theorem Paired.mapP2 {α β : Type} {F G : α → β → Prop} : ∀ {l₁ : List α} {l₂ : List β}, PySem.Paired F l₁ l₂ → (∀ a b, a ∈ l₁ → F a b → G a b) → PySem.Paired G l₁ l₂
  | _, _, .nil, _ => .nil
  | _, _, .cons r t, f => .cons (f _ _ List.mem_cons_self r) (Paired.mapP2 t fun a b h => f a b (List.mem_cons_of_mem _ h))
open PySem PySem.Spec PyProof.Rows L2
open PySem.W (EachIs AllAlike Sortable dataLe keyToks sortLe TotalLe alike)
section
variable {X : Cx} {e : Expr} {te : TE} {p apos cpos pos : Pos}
def rItR : V → Hp → VK → Prop := fun x H Q => ∃ (d : Addr) (kvs : List (Key × V)), x = .ref d ∧ Rd H d (.dK kvs) ∧ ∀ (H' : Hp) (p : Addr) (ts : List Addr), (∀ b o, H b = some o → H' b = some o) → H p = none → (∀ t ∈ ts, H t = none) → p ∉ ts → H' p = some (.lst (ts.map V.ref)) →
  Paired (fun (t : Addr) (q : Key × V) => H' t = some (.tup [kV q.1, q.2])) ts kvs → Q (.ref p) H'
def tItR (te : TE) : TE := fun σ H Q => te σ H fun x H1 => rItR x H1 Q
theorem pe_itR (hc : X.calm = true) (he : PE X e te) (hg : Gl X "list") (hm : X.mg "list" = none) (hbase : attributeBase e "items" X.env (eval e X.env) = eval e X.env := by rfl) (hline : (apos.endLine == cpos.line) = true := by rfl)
    (hs : starEach [.Call (.Attribute e "items" apos) [] [] cpos] X.env = (false, eval (.Call (.Attribute e "items" apos) [] [] cpos) X.env) :: starEach [] X.env := by rfl) :
    PE X (.Call (.Name "list" p) [.Call (.Attribute e "items" apos) [] [] cpos] [] pos) (tItR te) := by
  refine ⟨fun pins s σ H Q I hq => ?_⟩
  refine wpAny_Call_Name_kw (ld_blt I hg hm (by decide +kernel : bootBuiltins "list" = some (.type "list")) ?_)
  refine PyProof.Rows.callWith_type1 ?_ hs rfl
  rw [hs]
  show wpAny _ _ (spliced ((false, eval (.Call (.Attribute e "items" apos) [] [] cpos) X.env) :: backTo pos (starEach [] X.env))) _ _ s
  refine Calls.spliced_cons ?_
  refine wpAny_Call_method (T := "dict") (id := "dict.items") hbase rfl hline F.plainAttrs_dict F.slot_dict_items F.type_dict_items (thn (he.run pins s σ H _ I hq) fun u s1 ⟨x, H1, I1, rx, d, kvs, ex, hd, q⟩ => ?_)
  subst ex
  obtain rfl : u = Value.ref d := rx
  obtain ⟨hz, hs0, vs, kv, hdo⟩ := dk_rd I1.hok hd
  obtain ⟨ep, hat⟩ := hdo.dictAt
  have lk : kvs.length = vs.length := Paired.length kv
  have I2 : Inv X pins σ H1 { s1 with heap := s1.heap.push { cls := .type "dict_items", data := .fields #[.ref d] } } := I1.kept (t' := s1.toks) fun b ob q => Heap.get?_push_of_some _ q
  refine ⟨hdo.typeIs, hdo.mapOf.noDict, ?_⟩
  show wpAny _ _ (callWith cpos (.builtin "dict.items") [.ref d] [] []) _ X.xe s1
  refine method_meetsIn F.slot_dict_items F.entry_dict_items rfl (PySem.evalArgs_none ⟨rfl, hdo.typeIs, F.args_dict_items_1 _, _, meets_dict_items (mixKind X.prog X.w) d hs0, ⟨vs, hdo⟩, ?_⟩)
  refine Calls.spliced_nil ?_
  refine PySem.W.kdx_call (knd := mixKind X.prog X.w) (kvs := vs) (ep := ep) (I1.ok.hd hc) ⟨_, Heap.get?_push_size _ rfl, rfl, rfl⟩ (hat.push _) (by omega) fun h' tk acc c as hk hS hl hG hacc => ?_
  obtain ⟨H', k1, k2, k3, k4, k5, k6, J⟩ := LiI.items_laid (tk := tk) I2 hz kv hk hS hl hG hacc
  exact ⟨.ref _, H', J, rfl, q H' _ as k1 k2 k3 k4 k5 k6⟩
/-! sorted(d.values()), whole numbers -/
def rSoV : V → Hp → VK → Prop := fun x H Q => ∃ (d : Addr) (kvs : List (Key × V)) (ns : List Int), x = .ref d ∧ Rd H d (.dK kvs) ∧ kvs.map (·.2) = ns.map V.int ∧ ∀ (p : Addr) (out : List V), H p = none → EachIs (fun v d => ∃ i, v = V.int i ∧ d = D.int i) out (sortD (ns.map D.int)) → Q (.ref p) (upd H p (.lst out))
def tSoV (te : TE) : TE := fun σ H Q => te σ H fun x H1 => rSoV x H1 Q
theorem each_ints : ∀ {vs : List Value} {ns : List Int}, vs.length = ns.length → (∀ (j : Nat) (v : Value), vs[j]? = some v → ∃ i, ns[j]? = some i ∧ ∃ t, v = Value.int i t) → EachIs (fun u d => ∃ i t, u = Value.int i t ∧ d = D.int i) vs (ns.map D.int)
  | [], [], _, _ => .nil
  | [], _ :: _, h, _ => by cases h
  | _ :: _, [], h, _ => by cases h
  | v :: vs, n :: ns, h, k => by
    obtain ⟨i, h1, t, h2⟩ := k 0 v rfl
    cases h1
    exact .cons ⟨n, t, h2, rfl⟩ (each_ints (Nat.succ.inj h) fun j v e => k (j + 1) v e)
theorem ints_back : ∀ {us : List Value} {ds : List D}, EachIs (fun u d => ∃ i t, u = Value.int i t ∧ d = D.int i) us ds → ∃ vs : List V, Vals vs us ∧ EachIs (fun v d => ∃ i, v = V.int i ∧ d = D.int i) vs ds
  | [], _, e => by cases e; exact ⟨[], .nil, .nil⟩
  | u :: us, _, e => by
    cases e with
    | cons e1 e2 =>
      obtain ⟨i, t, rfl, h⟩ := e1
      obtain ⟨vs, r, hs⟩ := ints_back e2
      exact ⟨.int i :: vs, .cons ⟨t, rfl⟩ r, .cons ⟨i, rfl, h⟩ hs⟩
theorem ints_alike (ns : List Int) : AllAlike ((ns.map D.int).map toPy) := by
  intro d hd d' hd'
  rw [List.map_map] at hd hd'
  obtain ⟨i, _, rfl⟩ := List.mem_map.mp hd
  obtain ⟨j, _, rfl⟩ := List.mem_map.mp hd'
  simp [Function.comp, toPy, alike]
theorem ints_so (ns : List Int) : Sortable ((ns.map D.int).map toPy) := .inr fun d hd => by
  rw [List.map_map] at hd
  obtain ⟨i, _, rfl⟩ := List.mem_map.mp hd
  simp [Function.comp, toPy]
theorem pe_soV (hc : X.calm = true) (hu : X.A.units + 64 < cLine) (he : PE X e te) (hg : Gl X "sorted") (hm : X.mg "sorted" = none) (hbase : attributeBase e "values" X.env (eval e X.env) = eval e X.env := by rfl) (hline : (apos.endLine == cpos.line) = true := by rfl)
    (hs : starEach [.Call (.Attribute e "values" apos) [] [] cpos] X.env = (false, eval (.Call (.Attribute e "values" apos) [] [] cpos) X.env) :: starEach [] X.env := by rfl) :
    PE X (.Call (.Name "sorted" p) [.Call (.Attribute e "values" apos) [] [] cpos] [] pos) (tSoV te) := by
  refine ⟨fun pins s σ H Q I hq => ?_⟩
  refine wpAny_Call_Name_kw (ld_blt I hg hm (by decide +kernel : bootBuiltins "sorted" = some (.builtin "sorted")) ?_)
  refine PyProof.Rows.callWith_builtin1 ?_ hs rfl
  rw [hs]
  show wpAny _ _ (spliced ((false, eval (.Call (.Attribute e "values" apos) [] [] cpos) X.env) :: backTo pos (starEach [] X.env))) _ _ s
  refine Calls.spliced_cons ?_
  refine wpAny_Call_method (T := "dict") (id := "dict.values") hbase rfl hline F.plainAttrs_dict F.slot_dict_values F.type_dict_values (thn (he.run pins s σ H _ I hq) fun u s1 ⟨x, H1, I1, rx, d, kvs, ns, ex, hd, hns, q⟩ => ?_)
  subst ex
  obtain rfl : u = Value.ref d := rx
  obtain ⟨hz, hs0, vs, kv, hdo⟩ := dk_rd I1.hok hd
  obtain ⟨ep, hat⟩ := hdo.dictAt
  have lk : kvs.length = vs.length := Paired.length kv
  have I2 : Inv X pins σ H1 { s1 with heap := s1.heap.push { cls := .type "dict_values", data := .fields #[.ref d] } } := I1.kept (t' := s1.toks) fun b ob q => Heap.get?_push_of_some _ q
  refine ⟨hdo.typeIs, hdo.mapOf.noDict, ?_⟩
  show wpAny _ _ (callWith cpos (.builtin "dict.values") [.ref d] [] []) _ X.xe s1
  refine method_meetsIn F.slot_dict_values F.entry_dict_values rfl (PySem.evalArgs_none ⟨rfl, hdo.typeIs, F.args_dict_values_1 _, _, meets_dict_values (mixKind X.prog X.w) d hs0, ⟨vs, hdo⟩, ?_⟩)
  refine Calls.spliced_nil ?_
  have hl : vs.length = ns.length := by
    have e := congrArg List.length hns
    rw [List.length_map, List.length_map] at e
    omega
  refine Calls.call_function_entry PyProof.Rows.kind_sorted PyProof.Rows.plain_sorted PyProof.Rows.entry_sorted (PyProof.Rows.args_sorted1 _) ?_
  unfold Builtin.«sorted»
  refine wpAny_bind (m := checkCount "sorted" 1 1 _) (wpAny_pure ?_)
  refine wpAny_bind (PySem.W.kdu_collect (A := X.A.in1) (PySem.W.kdl_values (r := s1.heap.objs.size) (d := d) (knd := mixKind X.prog X.w) (kvs := vs) (ep := ep)) (I1.ok.hd hc) ⟨⟨_, Heap.get?_push_size _ rfl, rfl, rfl⟩, hat.push _⟩ (by omega) fun h' tk acc hk hacc => ?_)
  have hal : acc.toList.length = ns.length := by rw [Array.length_toList, hacc.1, hl]
  have hE : EachIs (fun u d => ∃ i t, u = Value.int i t ∧ d = D.int i) acc.toList (ns.map D.int) := each_ints hal fun j v e => by
    obtain ⟨k, e1⟩ := hacc.2 j v (by rw [← Array.getElem?_toList]; exact e)
    have hj : j < kvs.length := by rw [lk]; exact (List.getElem?_eq_some_iff.mp e1).1
    obtain ⟨q2, g1, g2, g3⟩ := LiI.paired_get kv (List.getElem?_eq_getElem hj)
    rw [e1] at g1
    cases g1
    have e2 : (kvs.map (·.2))[j]? = some kvs[j].2 := by rw [List.getElem?_map, List.getElem?_eq_getElem hj]; rfl
    rw [hns, List.getElem?_map] at e2
    cases e4 : ns[j]? with
    | none => rw [e4] at e2; cases e2
    | some i =>
      rw [e4] at e2
      have e5 : V.int i = kvs[j].2 := Option.some.inj e2
      rw [← e5] at g3
      obtain ⟨t, rfl⟩ := g3
      exact ⟨i, rfl, t, rfl⟩
  have I3 : Inv X pins σ H1 { s1 with heap := h', toks := tk } := I2.kept hk
  refine wpAny_bind (wpAny_newList ?_ (by rw [hal, ← hl, ← lk]; exact hz))
  have hoL : (h'.push (seqObj "list" acc.toList.toArray 0)).get? h'.objs.size = some (seqObj "list" acc.toList.toArray 0) := Heap.get?_push_size _ rfl
  show wpAny _ _ _ _ _ { s1 with heap := h'.push (seqObj "list" acc.toList.toArray 0), toks := tk }
  refine wpAny_bind (wpAny_holding (PySem.W.list_sort_data (enc := toPy) (R := fun u d => ∃ i t, u = Value.int i t ∧ d = D.int i) (s := { s1 with heap := h'.push (seqObj "list" acc.toList.toArray 0), toks := tk }) hoL hE
    (each_map2 (fun u d ⟨i, t, e1, e2⟩ => ⟨[], by subst e1; subst e2; unfold toPy; exact .int i t, by simp⟩) hE) (ints_alike ns) (ints_so ns) (by rw [List.length_map, ← hl, ← lk]; exact hz) (fun b hb => ?_) fun out h1 h2 => ?_))
  · obtain ⟨i, _, rfl⟩ := List.mem_map.mp hb
    have hd0 : (toPy (.int i)).depth = 0 := by unfold toPy; rfl
    rw [hd0]
    show X.A.units + 1 + 1 + 0 < cLine
    omega
  obtain ⟨ws, rw', hw⟩ := ints_back h2
  obtain ⟨e', he'⟩ := PyProof.Rows.sortedHeap_at (vs := acc.toList) (out := out.toArray) hoL
  have hlen : ws.length ≤ sizeLine := by rw [rw'.length, h1, List.length_map, ← hl, ← lk]; exact hz
  refine wpAny_pure ⟨_, rfl, .ref h'.objs.size, upd H1 h'.objs.size (.lst ws), I3.laid (t' := tk) (fun b u e => ?_) (Nat.le_refl _) ⟨hlen, out, e', rw', he'⟩, rfl, q _ ws (I3.hok.fresh (Nat.le_refl _)) hw⟩
  have hb : b < h'.objs.size := Heap.lt_size e
  show (PyProof.Rows.sortedHeap _ _ _ _).get? b = some u
  rw [PyProof.Rows.sortedHeap_old (Nat.ne_of_lt hb) (by rw [Heap.size_push]; exact Nat.lt_succ_of_lt hb)]
  exact Heap.get?_push_of_some _ e
end
section
variable {X : Cx} {cm : CM} {a : Expr} {p apos cpos pos : Pos}
def itemD (ds : List (Key × D)) : List D := ds.map fun p => .tup [match p.1 with | .inl i => .int i | .inr s => .str s, p.2]
def fItL (f : PF) : FE := fun e => (f e).bind fun r => match r.1 with
  | .dk ds => some (nw (.lst (itemD ds)), r.2)
  | _ => none
theorem rep_kV {G : Hp} (k : Key) : Rep cm G (match k with | .inl i => .int i | .inr s => .str s) (kV k) := by
  cases k with
  | inl i => exact rfl
  | inr s => exact rfl
theorem items_reps {G : Hp} : ∀ {ds : List (Key × D)} {kvs : List (Key × V)} {ts : List Addr}, RepK cm G ds kvs → Paired (fun (t : Addr) (q : Key × V) => G t = some (.tup [kV q.1, q.2])) ts kvs → Reps cm G (itemD ds) (ts.map V.ref)
  | [], _, _, r, h => by obtain rfl : _ = [] := r; cases h; exact rfl
  | (k, d) :: ds, _, _, ⟨v, t, e, a, b⟩, h => by
    subst e
    cases h with
    | cons h1 h2 => exact ⟨_, _, rfl, ObjR.rep (d := .tup _) h1 ⟨_, rfl, _, _, rfl, rep_kV k, _, _, rfl, a, rfl⟩, items_reps b h2⟩
theorem j_itL {f : PF} (hc : X.calm = true) (h : JP X cm a f) (hm : X.mg "list" = none) (hg : Gl X "list" := by rfl) (hbase : attributeBase a "items" X.env (eval a X.env) = eval a X.env := by rfl) (hline : (apos.endLine == cpos.line) = true := by rfl)
    (hs : starEach [.Call (.Attribute a "items" apos) [] [] cpos] X.env = (false, eval (.Call (.Attribute a "items" apos) [] [] cpos) X.env) :: starEach [] X.env := by rfl) : JE X cm (.Call (.Name "list" p) [.Call (.Attribute a "items" apos) [] [] cpos] [] pos) (fItL f) := by
  obtain ⟨t, q1, q⟩ := h.ex
  refine .of ⟨_, pe_itR hc q1 hg hm hbase hline hs, fun lk sp G F H σ e r S' x hf Q k => ?_⟩
  obtain ⟨⟨d, S1⟩, z1, hf⟩ := Option.bind_eq_some_iff.mp hf
  refine q lk sp G F H σ e d S1 x z1 _ fun G1 F1 H1 v g1 f1 w1 r1 => ?_
  split at hf
  · rename_i ds he
    cases hf
    have he : d = _ := he
    subst he
    obtain ⟨dd, kvs, rfl, hd, rk⟩ := r1.dk w1
    refine ⟨dd, kvs, rfl, hd, fun H' b ts hle hb ht hbt hH' hp => ?_⟩
    have w1' := w1.lessF f1
    let G' : Hp := fun q => if q ∈ ts then H' q else G1 q
    have gin : ∀ {q}, q ∈ ts → G' q = H' q := fun {q} z => if_pos z
    have gout : ∀ {q}, q ∉ ts → G' q = G1 q := fun {q} z => if_neg z
    have gl : Le G1 G' := fun q u e => by
      have z : q ∉ ts := fun z => by rw [w1'.gn (ht q z)] at e; cases e
      rw [gout z]; exact e
    have tup : ∀ q ∈ ts, ∃ xs, H' q = some (.tup xs) := fun q z => by
      obtain ⟨j, y, _, _, h⟩ := LiI.paired_ix hp z
      exact ⟨_, h⟩
    have w2 : WR lk sp G' F H' S1 := by
      refine ⟨fun q u e => ?_, fun q u e => hle q u (w1'.fh q u e), fun q u e => ?_, fun q o e => ?_, fun s e => ?_, w1'.ft⟩
      · by_cases z : q ∈ ts
        · rw [gin z] at e
          unfold lkd
          rw [w1'.nl (w1'.gn (ht q z))]; exact e
        · rw [gout z] at e
          exact hle q _ (w1'.gh q u e)
      · have z : q ∉ ts := fun z => by rw [w1'.fn (ht q z)] at e; cases e
        rw [gout z]; exact w1'.fg q u e
      · obtain ⟨u, h, l⟩ := w1'.lg q o e
        exact ⟨u, gl q u h, l⟩
      · obtain ⟨a1, b1, c1⟩ := w1'.sp s e
        have z : sp ∉ ts := fun z => by rw [ht sp z] at a1; cases a1
        exact ⟨hle _ _ a1, by rw [gout z]; exact b1, c1⟩
    refine k G' H' _ (g1.trans gl) w2 (ResR.nw hH' ⟨_, rfl, items_reps (rk.mono gl _ _) (Paired.mapP2 hp fun q y z h => by show G' q = _; rw [gin z]; exact h)⟩ (by rw [gout hbt]; exact w1'.gn hb) (w1'.fn hb) (fun s e z => by
      have := (w1'.sp s e).1
      rw [← z, hb] at this; cases this))
  · cases hf
def intsK : List (Key × D) → Option (List Int)
  | [] => some []
  | (_, .int i) :: r => (intsK r).map fun t => i :: t
  | _ :: _ => none
theorem RepK.intVals {G : Hp} : ∀ {ds : List (Key × D)} {kvs : List (Key × V)} {ns : List Int}, RepK cm G ds kvs → intsK ds = some ns → kvs.map (·.2) = ns.map V.int
  | [], _, _, r, h => by obtain rfl : _ = [] := r; cases h; rfl
  | (k, d) :: ds, _, ns, ⟨v, t, e, a, b⟩, h => by
    subst e
    unfold intsK at h
    split at h
    · cases ‹_ :: _ = []›
    · rename_i k' i r he
      cases he
      obtain ⟨ns', h1, rfl⟩ := Option.map_eq_some_iff.mp h
      cases (show v = V.int i from a)
      rw [List.map_cons, List.map_cons, RepK.intVals b h1]
    · cases h
noncomputable def fSoV (f : PF) : FE := fun e => (f e).bind fun r => match r.1 with
  | .dk ds => (intsK ds).map fun ns => (nw (.lst (sortD (ns.map D.int))), r.2)
  | _ => none
theorem each_repInt {G : Hp} : ∀ {vs : List V} {ds : List D}, EachIs (fun v d => ∃ i, v = V.int i ∧ d = D.int i) vs ds → Reps cm G ds vs
  | _, _, .nil => rfl
  | _, _, .cons r t => by
    obtain ⟨i, rfl, rfl⟩ := r
    exact ⟨_, _, rfl, rfl, each_repInt t⟩
theorem j_soV {f : PF} (hc : X.calm = true) (hu : X.A.units + 64 < cLine) (h : JP X cm a f) (hm : X.mg "sorted" = none) (hg : Gl X "sorted" := by rfl) (hbase : attributeBase a "values" X.env (eval a X.env) = eval a X.env := by rfl) (hline : (apos.endLine == cpos.line) = true := by rfl)
    (hs : starEach [.Call (.Attribute a "values" apos) [] [] cpos] X.env = (false, eval (.Call (.Attribute a "values" apos) [] [] cpos) X.env) :: starEach [] X.env := by rfl) : JE X cm (.Call (.Name "sorted" p) [.Call (.Attribute a "values" apos) [] [] cpos] [] pos) (fSoV f) := by
  obtain ⟨t, q1, q⟩ := h.ex
  refine .of ⟨_, pe_soV hc hu q1 hg hm hbase hline hs, fun lk sp G F H σ e r S' x hf Q k => ?_⟩
  obtain ⟨⟨d, S1⟩, z1, hf⟩ := Option.bind_eq_some_iff.mp hf
  refine q lk sp G F H σ e d S1 x z1 _ fun G1 F1 H1 v g1 f1 w1 r1 => ?_
  split at hf
  · rename_i ds he
    obtain ⟨ns, z2, hf⟩ := Option.map_eq_some_iff.mp hf
    cases hf
    have he : d = _ := he
    subst he
    obtain ⟨dd, kvs, rfl, hd, rk⟩ := r1.dk w1
    have w1' := w1.lessF f1
    exact ⟨dd, kvs, ns, rfl, hd, rk.intVals z2, fun b out hb ho => k G1 _ _ g1 (w1'.new hb) (ResR.nw upd_same ⟨out, rfl, each_repInt ho⟩ (w1'.gn hb) (w1'.fn hb) (w1'.spn hb))⟩
  · cases hf
end
end Al


set_option Elab.async false
set_option linter.all false
set_option maxRecDepth 100000
/-! Calls of defs, methods; own instances made; what is lent. -/
namespace Al
open PySem PySem.Spec PyProof.Rows L2
section
variable {X : Cx} {cm : CM} {a b e : Expr} {es as : List Expr} {pos p apos p1 p2 p3 : Pos} {x : Str} {k j n : Nat}
/-! ### calls -/
/-- a def of the text, called by its name -/
structure Cal (P : Program) (w : World) (K : PySem.W.Frag) (mg : Str → Option Value) (base : Heap) (k : Nat) (x : Str) (sp : Sp) : Prop where
  ex : ∃ (f : Addr) (fd : FuncData) (ps : List Str), FnOk P w K mg base CX0 k f fd ps sp ∧ mg x = some (.ref f) ∧ PySem.W.keepIn K (.ref f) = true ∧ Binds K fd ps []
theorem pe_c {sp : Sp} {t : TA} (c : Cal X.prog X.w X.K X.mg X.base k x sp) (hr : Room j X.A) (hk : k ≤ j) (hg : Gl X x) (ha : PA X (e :: es) t) (hdb : (x == ("__debug__" : Str)) = false := by decide)
    (he : starEach (e :: es) X.env = (false, eval e X.env) :: starEach es X.env := by rfl) (hpl : (backTo pos (starEach es X.env)).any (·.1) = false := by rfl) : PE X (.Call (.Name x p) (e :: es) [] pos) (tCall sp [] E0 t) := by
  obtain ⟨f, fd, ps, F, hm, kp, b⟩ := c.ex
  exact pe_call (F.mono hk) hr hg hm kp b .nil pass0 ha hdb he hpl
def fCl (Φ : Fn) (n : Nat) (fa : AF) : FE := fCall (fun ds => if ds.length = n then Φ ds else none) fa
theorem fcl_ok {Φ : Fn} {n : Nat} {t : TA} {fa : AF} {E : XK} (q : KOk cm t fa) : EOk cm (tCall (spP cm Φ n) [] E t) (fCl Φ n fa) := fun lk sp G F H σ e r S' x hf Q k => by
  obtain ⟨⟨ds, S1⟩, z1, hf⟩ := Option.bind_eq_some_iff.mp hf
  obtain ⟨r', z2, hf⟩ := Option.map_eq_some_iff.mp hf
  cases hf
  have z2 : (if ds.length = n then Φ ds else none) = some r := z2
  split at z2
  · rename_i hl
    refine q lk sp G F H σ e ds S1 x z1 _ fun G1 H1 vs g1 w1 r1 => ?_
    rw [List.append_nil]
    exact ⟨lk, sp, G1, asideF F sp S1, ds, r, aside w1, r1, z2, hl, fun G2 H2 v g2 w2 r2 => k G2 H2 v (g1.trans g2) (unaside w1 w2) (unasideR w1 r2)⟩
  · cases z2
theorem j_cl {Φ : Fn} {fa : AF} (c : Cal X.prog X.w X.K X.mg X.base k x (spP cm Φ n)) (hr : Room j X.A) (hk : k ≤ j) (ha : JK X cm (e :: es) fa) (hg : Gl X x := by rfl) (hdb : (x == ("__debug__" : Str)) = false := by decide)
    (he : starEach (e :: es) X.env = (false, eval e X.env) :: starEach es X.env := by rfl) (hpl : (backTo pos (starEach es X.env)).any (·.1) = false := by rfl) : JE X cm (.Call (.Name x p) (e :: es) [] pos) (fCl Φ n fa) := by
  obtain ⟨t, p1, q⟩ := ha.ex
  exact .of ⟨_, pe_c c hr hk hg p1 hdb he hpl, fcl_ok q⟩
theorem j_cl0 {Φ : Fn} (c : Cal X.prog X.w X.K X.mg X.base k x (spP cm Φ 0)) (hr : Room j X.A) (hk : k ≤ j) (hg : Gl X x := by rfl) (hdb : (x == ("__debug__" : Str)) = false := by decide) : JE X cm (.Call (.Name x p) [] [] pos) (fCl Φ 0 aNil) := by
  obtain ⟨f, fd, ps, F, hm, kp, b⟩ := c.ex
  exact .of ⟨_, pe_call0 (F.mono hk) hr hg hm kp b .nil pass0 hdb, fcl_ok (E := E0) (t := tNil) fun lk sp G F H σ e ds S' x hf Q k => by cases hf; exact k G H [] Le.rfl x.w rfl⟩
def fClS (Φ : FnS) (n : Nat) (fa : SF) : FE := fun e => (fa e).bind fun r => if r.1.length = n then Φ r.2 r.1 else none
theorem j_clS {Φ : FnS} {fa : SF} (c : Cal X.prog X.w X.K X.mg X.base k x (spS cm Φ n)) (hr : Room j X.A) (hk : k ≤ j) (ha : JQ X cm (e :: es) fa) (hg : Gl X x := by rfl) (hdb : (x == ("__debug__" : Str)) = false := by decide)
    (he : starEach (e :: es) X.env = (false, eval e X.env) :: starEach es X.env := by rfl) (hpl : (backTo pos (starEach es X.env)).any (·.1) = false := by rfl) : JE X cm (.Call (.Name x p) (e :: es) [] pos) (fClS Φ n fa) := by
  obtain ⟨t, p1, q⟩ := ha
  refine .of ⟨_, pe_c c hr hk hg p1 hdb he hpl, fun lk sp G F H σ e r S' x hf Q k => ?_⟩
  obtain ⟨⟨ds, S1⟩, z1, hf⟩ := Option.bind_eq_some_iff.mp hf
  split at hf
  · rename_i hl
    refine q lk sp G F H σ e ds S1 x z1 _ fun G1 H1 vs g1 w1 r1 => ?_
    rw [List.append_nil]
    exact ⟨lk, sp, G1, F, S1, ds, r, S', w1, r1, hf, hl, fun G2 H2 v g2 w2 r2 => k G2 H2 v (g1.trans g2) w2 r2⟩
  · cases hf
/-- f(k=v, ..): all by names, π: the places of the arguments in their order -/
structure CalK (P : Program) (w : World) (K : PySem.W.Frag) (mg : Str → Option Value) (base : Heap) (k : Nat) (x : Str) (ks : List Str) (gV : List V → List V → List V) (sp : Sp) : Prop where
  ex : ∃ (f : Addr) (fd : FuncData) (ps : List Str) (g : List Value → List Value → List Value), FnOk P w K mg base CX0 k f fd ps sp ∧ mg x = some (.ref f) ∧ PySem.W.keepIn K (.ref f) = true ∧ KBinds K fd ps ks g gV
theorem pe_clK {kws : List Keyword} {ks : List Str} {gV : List V → List V → List V} {sp : Sp} {tk : TA} (c : CalK X.prog X.w X.K X.mg X.base k x ks gV sp) (hr : Room j X.A) (hk : k ≤ j) (hg : Gl X x) (hkw : PK X kws tk)
    (hall : (backToKw pos (keywordEach kws X.env)).all (·.1.isSome) = true := by rfl) (hks : (backToKw pos (keywordEach kws X.env)).filterMap (·.1) = ks := by rfl) (hdb : (x == ("__debug__" : Str)) = false := by decide)
    (hpl : ((backTo pos (starEach [] X.env)).any (·.1) || (backToKw pos (keywordEach kws X.env)).any (·.1.isNone)) = false := by rfl) : PE X (.Call (.Name x p) [] kws pos) (tCallK sp gV E0 tNil tk) := by
  obtain ⟨f, fd, ps, g, F, hm, kp, b⟩ := c.ex
  refine ⟨fun pins s σ H Q I h => ?_⟩
  refine wpAny_Call_Name_kw (ld_glob I hg hm ?_ hdb)
  refine PySem.W.callWith_KW0 (h₀ := X.base) I.ok.mod.kin kp hall (thn (hkw.run pos pins s σ H _ I h) fun ws s2 ⟨zs, H2, I2, rz, q2⟩ => ⟨I2.kIn, ?_⟩) hpl
  rw [hks]
  exact run_fnk (F.mono hk) hr b pass0 I2 (us := []) .nil rz q2
def permL {α : Type} (π : List Nat) (xs : List α) : List α := π.filterMap fun i => xs[i]?
theorem Reps.perm {G : Hp} {ds : List D} {vs : List V} (r : Reps cm G ds vs) : ∀ (π : List Nat), Reps cm G (permL π ds) (permL π vs)
  | [] => rfl
  | i :: π => by
    unfold permL
    rw [List.filterMap_cons, List.filterMap_cons]
    cases h : ds[i]? with
    | none =>
      have : vs[i]? = none := by
        rw [List.getElem?_eq_none_iff] at h ⊢
        rw [r.len]; exact h
      rw [this]
      exact r.perm π
    | some d =>
      obtain ⟨v, h1, h2⟩ := r.get h
      rw [h1]
      exact ⟨v, _, rfl, h2, r.perm π⟩
def kvL {α : Type} (π : List Nat) : List α → List α → List α
  | [], zs => permL π zs
  | _ :: _, _ => []
theorem vals_at : ∀ {zs : List V} {ws : List Value}, Vals zs ws → ∀ i : Nat, (zs[i]? = none ∧ ws[i]? = none) ∨ ∃ z w, zs[i]? = some z ∧ ws[i]? = some w ∧ RelV z w
  | _, _, .nil, i => .inl ⟨by simp, by simp⟩
  | _, _, .cons (a := z) (b := w) r t, 0 => .inr ⟨z, w, rfl, rfl, r⟩
  | _, _, .cons r t, i + 1 => by simpa using vals_at t i
theorem vals_perm {zs : List V} {ws : List Value} (r : Vals zs ws) : ∀ π : List Nat, Vals (permL π zs) (permL π ws)
  | [] => .nil
  | i :: π => by
    have ih := vals_perm r π
    unfold permL at ih ⊢
    rw [List.filterMap_cons, List.filterMap_cons]
    rcases vals_at r i with ⟨h1, h2⟩ | ⟨z, w, h1, h2, h3⟩
    · rw [h1, h2]; exact ih
    · rw [h1, h2]; exact .cons h3 ih
theorem fun_kbinds {K : PySem.W.Frag} {x qual : Str} {st : Stmt} {f : Addr} {fd : FuncData} {ps ks : List Str} {π : List Nat} (F : Fun K x qual st f fd) (hps : ps ≠ [])
    (h : ∀ (kV doc pm : Value) (an : Option Addr) (cdv ct : Value) (ws : List Value), (permL π ws).length = ps.length → bindArgs (PySem.W.fnOf x qual (defArgs st) (defBody st) (defScope st) .none kV doc pm an cdv ct) ⟨[], ks.zip ws⟩ = pure (ps.zip (permL π ws))) : KBinds K fd ps ks (kvL π) (kvL π) := by
  obtain ⟨oc, od, kV, doc, pm, an, cdv, ct, osl, rfl, lk, hcd⟩ := F.ex
  refine ⟨fun s us ws _ hl => ?_, fun r rz => ?_⟩
  · cases us with
    | nil => exact .of_eq (h kV doc pm an cdv ct ws hl)
    | cons u us => exact absurd (List.eq_nil_of_length_eq_zero (show ps.length = 0 from hl.symm)) hps
  · cases r with
    | nil => exact vals_perm rz π
    | cons _ _ => exact .nil
def fClK (Φ : Fn) (n : Nat) (π : List Nat) (fa : AF) : FE := fCl Φ n fun e => (fa e).map fun r => (permL π r.1, r.2)
theorem j_clK {Φ : Fn} {fa : AF} {kws : List Keyword} {ks : List Str} {π : List Nat} {tk : TA} (c : CalK X.prog X.w X.K X.mg X.base k x ks (kvL π) (spP cm Φ n)) (hr : Room j X.A) (hk : k ≤ j) (hkw : PK X kws tk) (hok : KOk cm tk fa) (hg : Gl X x := by rfl)
    (hall : (backToKw pos (keywordEach kws X.env)).all (·.1.isSome) = true := by rfl) (hks : (backToKw pos (keywordEach kws X.env)).filterMap (·.1) = ks := by rfl) (hdb : (x == ("__debug__" : Str)) = false := by decide)
    (hpl : ((backTo pos (starEach [] X.env)).any (·.1) || (backToKw pos (keywordEach kws X.env)).any (·.1.isNone)) = false := by rfl) : JE X cm (.Call (.Name x p) [] kws pos) (fClK Φ n π fa) := by
  refine .of ⟨_, pe_clK c hr hk hg hkw hall hks hdb hpl, fun lk sp G F H σ e r S' x hf Q k => ?_⟩
  obtain ⟨⟨ds, S1⟩, z1, hf⟩ := Option.bind_eq_some_iff.mp hf
  obtain ⟨⟨ds0, S0⟩, z0, z1⟩ := Option.map_eq_some_iff.mp z1
  cases z1
  obtain ⟨r', z2, hf⟩ := Option.map_eq_some_iff.mp hf
  cases hf
  have z2 : (if (permL π ds0).length = n then Φ (permL π ds0) else none) = some r := z2
  split at z2
  · rename_i hl
    show tk σ H _
    refine hok lk sp G F H σ e ds0 S0 x z0 _ fun G1 H1 vs g1 w1 r1 => ?_
    exact ⟨lk, sp, G1, asideF F sp S0, permL π ds0, r, aside w1, r1.perm π, z2, hl, fun G2 H2 v g2 w2 r2 => k G2 H2 v (g1.trans g2) (unaside w1 w2) (unasideR w1 r2)⟩
  · cases z2
def JPK (X : Cx) (cm : CM) (kws : List Keyword) (fa : AF) : Prop := ∃ tk, PK X kws tk ∧ KOk cm tk fa
theorem jpk_nil : JPK X cm [] aNil := ⟨tNil, pk_nil, fun lk sp G F H σ e ds S' x hf Q k => by cases hf; exact k G H [] Le.rfl x.w rfl⟩
theorem jpk_cons {nm : Option Str} {kpos : Pos} {kws : List Keyword} {f : FE} {g : AF} (h1 : JE X cm a f) (h2 : JPK X cm kws g) : JPK X cm (⟨nm, a, kpos⟩ :: kws) (kCons f g) := by
  obtain ⟨t, p, q⟩ := h1.ex
  obtain ⟨t', p', q'⟩ := h2
  refine ⟨_, pk_cons p p', fun lk sp G F H σ e ds S' x hf Q k => ?_⟩
  obtain ⟨⟨d, S1⟩, z1, hf⟩ := Option.bind_eq_some_iff.mp hf
  obtain ⟨⟨es, S2⟩, z2, hf⟩ := Option.map_eq_some_iff.mp hf
  cases hf
  refine q lk sp G F H σ e d S1 x z1 _ fun G1 H1 v g1 w1 r1 => ?_
  obtain ⟨G1', g1', w1', r1'⟩ := r1.freeze w1
  refine q' lk sp G1' F H1 σ _ es S2 (x.next (g1.trans g1') Le.rfl w1') z2 _ fun G2 H2 vs g2 w2 r2 => ?_
  exact k G2 H2 _ ((g1.trans g1').trans g2) w2 ⟨v, vs, rfl, r1'.mono g2 _ _, r2⟩
theorem j_ck {Φ : Fn} {fa : AF} {kws : List Keyword} {ks : List Str} {π : List Nat} (c : CalK X.prog X.w X.K X.mg X.base k x ks (kvL π) (spP cm Φ n)) (hr : Room j X.A) (hk : k ≤ j) (hkw : JPK X cm kws fa) (hg : Gl X x := by rfl)
    (hall : (backToKw pos (keywordEach kws X.env)).all (·.1.isSome) = true := by rfl) (hks : (backToKw pos (keywordEach kws X.env)).filterMap (·.1) = ks := by rfl) (hdb : (x == ("__debug__" : Str)) = false := by decide)
    (hpl : ((backTo pos (starEach [] X.env)).any (·.1) || (backToKw pos (keywordEach kws X.env)).any (·.1.isNone)) = false := by rfl) : JE X cm (.Call (.Name x p) [] kws pos) (fClK Φ n π fa) := by
  obtain ⟨tk, h1, h2⟩ := hkw
  exact j_clK c hr hk h1 h2 hg hall hks hdb hpl
/-! ### methods -/
/-- a class's method as the walk needs it -/
structure CalM (P : Program) (w : World) (K : PySem.W.Frag) (mg : Str → Option Value) (base : Heap) (k : Nat) (C : Addr) (m : Str) (sp : Sp) : Prop where
  ex : ∃ (f : Addr) (fd : FuncData) (ps : List Str), Meth K C m f ∧ FnOk P w K mg base CX0 k f fd ps sp ∧ Binds K fd ps []
def fMt (c : Nat) (m : Str) (Φ : Fn) (n : Nat) (fo : FE) (fa : AF) : FE := fun e => (fo e).bind fun o => match o.1.d with
  | .ins c' fs => if c' = c ∧ fs.lookup m = none then (fa (e.st o.2)).bind fun r => if r.1.length + 1 = n then (Φ (.ins c' fs :: r.1)).map fun q => (q, r.2) else none else none
  | _ => none
theorem RepF.none {G : Hp} {m : Str} : ∀ {ds : List (Str × D)} {vs : List (Str × V)}, RepF cm G ds vs → ds.lookup m = none → vs.lookup m = none
  | [], _, r, _ => by obtain rfl : _ = [] := r; rfl
  | (k, d) :: ds, _, ⟨v, t, q, a, b⟩, h => by
    subst q
    rw [List.lookup_cons] at h ⊢
    cases hk : m == k with
    | true => rw [hk] at h; cases h
    | false => rw [hk] at h; exact RepF.none b h
theorem mt_ok {c : Nat} {m : Str} {Φ : Fn} {n : Nat} {fo : FE} {fa : AF} {ta : TE} {t : TA} (q1 : EOk cm ta fo) (q2 : KOk cm t fa) : EOk cm (tMeth (cm c) m (spP cm Φ n) [] E0 ta t) (fMt c m Φ n fo fa) := fun lk sp G F H σ e r S' x hf0 Q k => by
  obtain ⟨⟨ro, S1⟩, z1, hf⟩ := Option.bind_eq_some_iff.mp hf0
  clear hf0
  refine q1 lk sp G F H σ e ro S1 x z1 _ fun G1 H1 v g1 w1 r1 => ?_
  obtain ⟨G2, g2, w2, r2⟩ := r1.freeze w1
  cases hd : ro.d with
  | ins c' fs =>
    simp only [hd] at hf
    split at hf
    · rename_i hh
      obtain ⟨rfl, hm⟩ := hh
      obtain ⟨⟨ds, S2⟩, z2, hf⟩ := Option.bind_eq_some_iff.mp hf
      split at hf
      · rename_i hn
        obtain ⟨r', z3, hf⟩ := Option.map_eq_some_iff.mp hf
        cases hf
        rw [hd] at r2
        obtain ⟨p, u, rfl, hp, dx, vs, rfl, rf⟩ := r2
        have x2 : ER cm lk sp G2 F H1 σ (e.st S1) := x.next (g1.trans g2) Le.rfl w2
        refine ⟨p, dx, vs, rfl, w2.pl hp (fun z => z), rf.none hm, ?_⟩
        refine q2 lk sp G2 F H1 σ _ ds S2 x2 z2 _ fun G3 H3 us g3 w3 r3 => ?_
        rw [List.append_nil]
        exact ⟨lk, sp, G3, asideF F sp S2, .ins c' fs :: ds, r, aside w3, ⟨_, us, rfl, ⟨p, _, rfl, g3 _ _ hp, dx, vs, rfl, rf.mono g3 _ _⟩, r3⟩, z3, hn, fun G4 H4 v g4 w4 r4 => k G4 H4 v (((g1.trans g2).trans g3).trans g4) (unaside w3 w4) (unasideR w3 r4)⟩
      · cases hf
    · cases hf
  | _ => simp only [hd] at hf; cases hf
theorem j_mt {c : Nat} {m : Str} {Φ : Fn} {fo : FE} {fa : AF} (hc : Cls X.K (cm c)) (cl : CalM X.prog X.w X.K X.mg X.base k (cm c) m (spP cm Φ n)) (hr : Room j X.A) (hk : k ≤ j) (ho : JE X cm a fo) (ha : JK X cm (e :: es) fa)
    (hst : starEach (e :: es) X.env = (false, eval e X.env) :: starEach es X.env := by rfl) (hpl : (backTo pos (starEach es X.env)).any (·.1) = false := by rfl) {pl : Sem Bool}
    (ht : eval (.Call (.Attribute a m apos) (e :: es) [] pos) X.env = (do let ov ← eval a X.env; standAt apos.atName; let (f, first) ← holding [ov] (getMethod ov m pl); callWith pos f first (backTo pos (starEach (e :: es) X.env)) (backToKw pos (keywordEach [] X.env))) := by rfl) :
    JE X cm (.Call (.Attribute a m apos) (e :: es) [] pos) (fMt c m Φ n fo fa) := by
  obtain ⟨f, fd, ps, hm, F, b⟩ := cl.ex
  obtain ⟨t, p1, q1⟩ := ho.ex
  obtain ⟨t2, p2, q2⟩ := ha.ex
  exact .of ⟨_, pe_meth p1 hc hm (F.mono hk) hr b .nil pass0 p2 hst hpl ht, mt_ok q1 q2⟩
theorem j_mt0 {c : Nat} {m : Str} {Φ : Fn} {fo : FE} (hc : Cls X.K (cm c)) (cl : CalM X.prog X.w X.K X.mg X.base k (cm c) m (spP cm Φ n)) (hr : Room j X.A) (hk : k ≤ j) (ho : JE X cm a fo) {pl : Sem Bool}
    (ht : eval (.Call (.Attribute a m apos) [] [] pos) X.env = (do let ov ← eval a X.env; standAt apos.atName; let (f, first) ← holding [ov] (getMethod ov m pl); callWith pos f first (backTo pos (starEach [] X.env)) (backToKw pos (keywordEach [] X.env))) := by rfl) :
    JE X cm (.Call (.Attribute a m apos) [] [] pos) (fMt c m Φ n fo aNil) := by
  obtain ⟨f, fd, ps, hm, F, b⟩ := cl.ex
  obtain ⟨t, p1, q1⟩ := ho.ex
  exact .of ⟨_, pe_meth0 p1 hc hm (F.mono hk) hr b .nil pass0 ht, mt_ok q1 fun lk sp G F H σ e ds S' x hf Q k => by cases hf; exact k G H [] Le.rfl x.w rfl⟩
end
end Al


set_option Elab.async false
set_option linter.all false
set_option maxRecDepth 100000
/-! Instances made. -/
namespace Al
open PySem PySem.Spec PyProof.Rows L2
/-! ### __init__ -/
abbrev FnI := List D → Option (List (Str × D))
def spI (cm : CM) (c : Nat) (Φ : FnI) (n : Nat) : Sp := fun vs H Q _ => ∃ lk sp G F x dx ds us fs, WR lk sp G F H none ∧ H x = some (.ins (cm c) dx []) ∧ G x = none ∧ F x = none ∧ vs = .ref x :: us ∧ Reps cm G ds us ∧ Φ ds = some fs ∧ ds.length + 1 = n ∧
  ∀ G' H' dx' ws, Le G G' → WR lk sp G' F H' none → H' x = some (.ins (cm c) dx' ws) → RepF cm G' fs ws → G' x = none → Q .non H'
abbrev FT := En → Option (List (Str × D))
/-- a body that ends with what it stores at self (slot 0) -/
def JT0 (X : Cx) (cm : CM) (c : Nat) (as : List Stmt) (g : FT) : Prop := ∃ t, PSs X as t ∧ ∀ lk sp G F0 F H σ e fs x dx, SR cm lk sp G F0 H σ e → e.cs[0]? = some (.raw (.ref x)) → F0 = upd F x (.ins (cm c) dx []) → F x = none → g e = some fs → ∀ D : Ends,
  (∀ G' H' σ' dx' ws, Le G G' → WR lk sp G' F H' none → H' x = some (.ins (cm c) dx' ws) → RepF cm G' fs ws → G' x = none → D.nx σ' H') → t D σ H
open Classical in
noncomputable def gSeq (f : FS) (g : FT) : FT := fun e => (f e).bind fun r => match r.1 with
  | .nx => if r.2.cs[0]? = e.cs[0]? then g r.2 else none
  | _ => none
def gFld (f : Str) (fv : FE) : FT := fun e => (fv e).bind fun r => match r.2 with
  | none => some [(f, r.1.d)]
  | some _ => none
section
variable {X : Cx} {cm : CM} {c : Nat} {pos p1 p2 : Pos}
theorem jt0_cons {a : Stmt} {as : List Stmt} {f : FS} {g : FT} (h1 : JS X cm a f) (h2 : JT0 X cm c as g) : JT0 X cm c (a :: as) (gSeq f g) := by
  obtain ⟨t, p, q⟩ := h1.ex
  obtain ⟨t', p', q'⟩ := h2
  refine ⟨_, pss_cons p p', fun lk sp G F0 F H σ e fs x dx xs h0 hF hx hf D k => ?_⟩
  unfold gSeq at hf
  obtain ⟨⟨fl, e'⟩, z1, hf⟩ := Option.bind_eq_some_iff.mp hf
  refine q lk sp G F0 H σ e fl e' xs z1 _ ?_
  cases fl with
  | nx =>
    simp only at hf
    split at hf
    · rename_i he
      exact fun G' H' σ' g' x' => q' lk sp G' F0 F H' σ' e' fs x dx x' (he.trans h0) hF hx hf D fun G2 H2 σ2 dx' ws g2 => k G2 H2 σ2 dx' ws (g'.trans g2)
    · cases hf
  | _ => cases hf
theorem jt0_fld {f : Str} {ev : Expr} {fv : FE} {x : Str} (hc : Cls X.K (cm c)) (hn : NoAttr X.K (cm c) f) (hv : JE X cm ev fv)
    (hN : X.N[0]? = some x := by rfl) (hvis : Vis X.env.scope x := by first | exact Or.inl rfl | exact Or.inr (Or.inl rfl) | exact Or.inr (Or.inr rfl)) (hd : (x == ("__debug__" : Str)) = false := by decide)
    (hcd : (x == ("__classdict__" : Str)) = false := by decide) (hs : swapsWith ev (some (.Attribute (.Name x p1) f p2)) pos.line X.env = pure false := by rfl) : JT0 X cm c [.Assign [.Attribute (.Name x p1) f p2] ev pos] (gFld f fv) := by
  obtain ⟨t, p, q⟩ := hv.ex
  refine ⟨_, pss_one (ps_fld (pe_var hN hvis hd hcd) p hs), fun lk sp G F0 F H σ e fs x dx xs h0 hF hx hf D k => ?_⟩
  unfold gFld at hf
  obtain ⟨⟨r, S1⟩, z1, hf⟩ := Option.bind_eq_some_iff.mp hf
  cases S1 with
  | some s => cases hf
  | none =>
    cases hf
    obtain ⟨F1, l, xe, y⟩ := xs
    obtain ⟨o, hs0, ho⟩ := xe.c 0 _ h0
    obtain rfl : o = some (.ref x) := ho
    have hF1 : F1 x = some (.ins (cm c) dx []) := l _ _ (by rw [hF]; exact upd_same)
    refine q lk sp G F1 H σ e r none xe z1 _ fun G1 H1 v g1 w1 r1 => ?_
    obtain ⟨G2, g2, w2, r2⟩ := r1.freeze w1
    have gx : G2 x = none := w2.fg x _ hF1
    refine ⟨.ref x, hs0, x, cm c, dx, [], rfl, w2.fh x _ hF1, hc, hn, by decide, ?_⟩
    have lF : Le F F1 := fun q u h => l q u (by
      rw [hF]
      have hq : q ≠ x := fun z => by rw [z, hx] at h; cases h
      rw [upd_ne hq]; exact h)
    have w3 := w2.lessF lF
    refine k G2 _ σ dx [(f, v)] (g1.trans g2) ⟨fun q u h => ?_, fun q u h => ?_, w3.fg, w3.lg, (fun s h => nomatch h), w3.ft⟩ upd_same ⟨v, [], rfl, r2, rfl⟩ gx
    · have hq : q ≠ x := fun z => by rw [z, gx] at h; cases h
      rw [upd_ne hq]; exact w3.gh q u h
    · have hq : q ≠ x := fun z => by rw [z, hx] at h; cases h
      rw [upd_ne hq]; exact w3.fh q u h
end
def startI (x : Addr) (m : Nat) (ds : List D) : List Cell := Cell.raw (V.ref x) :: (ds.map Cell.frz ++ List.replicate (m - (ds.length + 1)) Cell.no)
open Classical in
noncomputable def runI (m : Nat) (g : FT) : FnI := fun ds => if ∀ x, g ⟨none, startI x m ds, fun _ => none⟩ = g ⟨none, startI 0 m ds, fun _ => none⟩ then g ⟨none, startI 0 m ds, fun _ => none⟩ else none
section
variable {P : Program} {w : World} {K : PySem.W.Frag} {mg : Str → Option Value} {base : Heap} {cm : CM}
theorem cells_startI {sp : Addr} {G F : Hp} {N : List Str} {x : Addr} {ds : List D} {us : List V} (r : Reps cm G ds us) : CellsR cm sp G F (L2.start N (.ref x :: us)) (startI x N.length ds) := by
  have hl := r.len
  intro i cc q
  unfold L2.start
  unfold startI at q
  cases i with
  | zero =>
    simp only [List.getElem?_cons_zero, Option.some.injEq] at q
    subst q
    exact ⟨some (.ref x), by simp, rfl⟩
  | succ i =>
    rw [List.getElem?_cons_succ] at q
    by_cases hi : i < ds.length
    · rw [List.getElem?_append_left (by rw [List.length_map]; exact hi), List.getElem?_map, List.getElem?_eq_getElem hi] at q
      cases q
      obtain ⟨v, h1, h2⟩ := r.get (List.getElem?_eq_getElem hi)
      refine ⟨some v, ?_, v, rfl, h2⟩
      rw [List.map_cons, List.cons_append, List.getElem?_cons_succ, List.getElem?_append_left (by rw [List.length_map]; omega), List.getElem?_map, h1]
      rfl
    · rw [List.getElem?_append_right (by rw [List.length_map]; omega), List.length_map, List.getElem?_replicate] at q
      split at q
      · rename_i hr
        cases q
        refine ⟨none, ?_, trivial⟩
        rw [List.map_cons, List.cons_append, List.getElem?_cons_succ, List.getElem?_append_right (by rw [List.length_map]; omega), List.length_map, List.getElem?_replicate, if_pos (by rw [List.length_cons]; omega)]
      · cases q
theorem def_okI {x qual : Str} {st : Stmt} {f : Addr} {fd : FuncData} {N ps : List Str} {k c : Nat} {g : FT} (F : Fun K x qual st f fd) (S : FnScope N ps (defScope st))
    (hb : ∀ (q : Str) (f : Addr) (cdv : Value) (A : Around) (outer : List Env) (s : Shared) (H : Hp) (E : XK), Room k (A.deeper (envOfC q (defScope st) s.heap.objs.size f cdv)) → JT0 (cxOf CX0 P w K mg base N q (defScope st) f cdv A outer s H E).nox cm c (defBody st) g) :
    FnOk P w K mg base CX0 (k + 1) f fd ps (spI cm c (runI N.length g) ps.length) := by
  refine F.ok S (fun vs H Q E h => ?_) fun cdv A outer s H vs Q E hr h => ?_
  · obtain ⟨lk, sp, G, F, x, dx, ds, us, fs, _, _, _, _, rfl, h2, _, h4, _⟩ := h
    rw [List.length_cons, h2.len, h4]
  · obtain ⟨t, p, q⟩ := hb qual f cdv A outer s H E hr
    refine ⟨t, p, ?_⟩
    obtain ⟨lk, sp, G, F, x, dx, ds, us, fs, h1, hx, gx, fx, rfl, h2, h3, h4, h5⟩ := h
    unfold runI at h3
    split at h3
    · rename_i hall
      rw [← hall x] at h3
      have noown : ∀ (F : Hp) (i : Nat) c o p, (startI x N.length ds)[i]? = some c → Ft F o c p → False := fun F i c o p z f => by
        unfold startI at z
        cases i with
        | zero =>
          simp only [List.getElem?_cons_zero, Option.some.injEq] at z
          subst z; exact f
        | succ i =>
          rw [List.getElem?_cons_succ] at z
          by_cases hi : i < ds.length
          · rw [List.getElem?_append_left (by rw [List.length_map]; exact hi), List.getElem?_map, List.getElem?_eq_getElem hi] at z
            cases z; exact f
          · rw [List.getElem?_append_right (by rw [List.length_map]; omega), List.getElem?_replicate] at z
            split at z
            · cases z; exact f
            · cases z
      have w1 := h1.keep hx gx (fun s e => nomatch e) (fun xs z => by cases z)
      exact q lk sp G (upd F x (.ins (cm c) dx [])) F H (L2.start N (.ref x :: us)) _ fs x dx ⟨_, Le.rfl, ⟨w1, cells_startI h2, fun i j c c' o o' p _ z _ _ _ f _ => noown _ i c o p z f, (fun _ _ h => by cases h)⟩, fun i c o p z _ f => (noown _ i c o p z f).elim⟩ rfl rfl fx h3 _
        fun G' H' σ' dx' ws g' w' hx' rf gx' => h5 G' H' dx' ws g' w' hx' rf gx'
    · cases h3
end
/-! ### C(..) -/
structure CalI (P : Program) (w : World) (K : PySem.W.Frag) (mg : Str → Option Value) (base : Heap) (k : Nat) (x : Str) (C : Addr) (sp : Sp) : Prop where
  ex : ∃ (f : Addr) (fd : FuncData) (ps : List Str), Mk K C f ∧ FnOk P w K mg base CX0 k f fd ps sp ∧ mg x = some (.ref C) ∧ Binds K fd ps []
def fMk (c : Nat) (Φ : FnI) (n : Nat) (fa : AF) : FE := fun e => (fa e).bind fun r => if r.1.length + 1 = n then (Φ r.1).map fun fs => (nw (.ins c fs), r.2) else none
section
variable {X : Cx} {cm : CM} {c : Nat} {pos p : Pos} {e : Expr} {es : List Expr} {x : Str} {k j n : Nat}
theorem j_mk {Φ : FnI} {fa : AF} (cl : CalI X.prog X.w X.K X.mg X.base k x (cm c) (spI cm c Φ n)) (hr : Room j X.A) (hk : k + 1 ≤ j) (ha : JK X cm (e :: es) fa) (hg : Gl X x := by rfl) (hdb : (x == ("__debug__" : Str)) = false := by decide)
    (he : starEach (e :: es) X.env = (false, eval e X.env) :: starEach es X.env := by rfl) (hpl : (backTo pos (starEach es X.env)).any (·.1) = false := by rfl) : JE X cm (.Call (.Name x p) (e :: es) [] pos) (fMk c Φ n fa) := by
  obtain ⟨f, fd, ps, M, F, hm, b⟩ := cl.ex
  obtain ⟨t, p1, q⟩ := ha.ex
  refine .of ⟨_, pe_make M F (hr.mono hk) hg hm b .nil pass0 p1 hdb he hpl, fun lk sp G F H σ e r S' x hf0 Q k => ?_⟩
  obtain ⟨⟨ds, S1⟩, z1, hf⟩ := Option.bind_eq_some_iff.mp hf0
  clear hf0
  split at hf
  · rename_i hl
    obtain ⟨fs, z2, hf⟩ := Option.map_eq_some_iff.mp hf
    cases hf
    refine q lk sp G F H σ e ds S1 x z1 _ fun G1 H1 vs g1 w1 r1 => ?_
    intro y dx hy hdx hne
    rw [List.append_nil]
    have gy := w1.gn hy
    have fy := w1.fn hy
    have w2 := (w1.new (o := .own y) hdx).new (o := .ins (cm c) dx []) (p := y) (by rw [upd_ne hne.symm]; exact hy)
    have fy2 : asideF F sp S1 y = none := by
      cases S1 with
      | none => exact fy
      | some s =>
        show upd F sp s.ho y = none
        rw [upd_ne (w1.spn hy s rfl)]; exact fy
    exact ⟨lk, sp, G1, asideF F sp S1, y, dx, ds, vs, fs, aside w2, upd_same, gy, fy2, rfl, r1, z2, hl, fun G' H' dx' ws g' w' hx' rf gx' => ⟨rfl, k G' H' _ (g1.trans g') (unaside w2 w') (ResR.nw hx' ⟨dx', ws, rfl, rf⟩ gx' fy (fun s e => w1.spn hy s e))⟩⟩
  · cases hf
end
end Al


set_option Elab.async false
set_option linter.all false
set_option maxRecDepth 100000
/-! list(str); stores at several names; ==, != of data and dicts; what is lent; left.pop. -/
namespace Al
open PySem PySem.Spec PyProof.Rows L2
section
variable {X : Cx} {cm : CM} {a b c : Expr} {pos : Pos}
/-! ### list(x), x a string -/
def rLstStr : List V → Hp → VK → Prop := fun xs H Q => ∃ x : Str, xs = [.str x] ∧ x.length ≤ 16777216 ∧ ∀ p, H p = none → Q (.ref p) (upd H p (.lst (x.cps.toList.map fun c => V.str ⟨#[c]⟩)))
theorem signs_vals {x : Str} {acc : Array Value} (h : ItemsOf (SignAt x) acc x.cps.size) : Vals (x.cps.toList.map fun c => V.str ⟨#[c]⟩) acc.toList := by
  have main : ∀ (cs : List Nat) (us : List Value), us.length = cs.length → (∀ (j : Nat) (v : Value), us[j]? = some v → ∃ c u, cs[j]? = some c ∧ v = Value.str ⟨#[c]⟩ u) → Vals (cs.map fun c => V.str ⟨#[c]⟩) us := by
    intro cs
    induction cs with
    | nil => intro us h _; cases us with | nil => exact .nil | cons u us => cases h
    | cons c cs ih =>
      intro us h k
      cases us with
      | nil => cases h
      | cons u us =>
        obtain ⟨c', t, h1, h2⟩ := k 0 u rfl
        cases h1
        exact .cons ⟨t, h2⟩ (ih us (Nat.succ.inj h) fun j v e => k (j + 1) v e)
  refine main x.cps.toList acc.toList (by rw [Array.length_toList, Array.length_toList, h.1]) fun j v e => ?_
  obtain ⟨c, u, hc, hv⟩ := h.2 j v (by rw [← Array.getElem?_toList]; exact e)
  exact ⟨c, u, by rw [Array.getElem?_toList]; exact hc, hv⟩
theorem call_lstStr (hcalm : X.calm = true) : CallR X (.type "list") rLstStr := by
  intro pins s σ H xs us Q I r h
  obtain ⟨x, rfl, hx, q⟩ := h
  obtain ⟨u, rfl, ⟨t, rfl⟩⟩ := vals1 r
  have hz : x.cps.size ≤ sizeLine := Nat.le_trans hx (by decide)
  refine call_list_str (I.ok.hd hcalm) x t (fun h' tk acc' c' hk hS' hacc => ?_) hz
  have hv := signs_vals hacc
  have hlen : (x.cps.toList.map fun c => V.str ⟨#[c]⟩).length ≤ sizeLine := by rw [List.length_map, Array.length_toList]; exact hz
  have hob : ObjOk X.prog X.w (upd H s.heap.objs.size (.lst (x.cps.toList.map fun c => V.str ⟨#[c]⟩))) h' s.heap.objs.size (.lst (x.cps.toList.map fun c => V.str ⟨#[c]⟩)) := ⟨hlen, acc'.toList, c', hv, by rw [Array.toArray_toList]; exact hS'⟩
  exact ⟨.ref s.heap.objs.size, _, I.laid (t' := tk) hk (Nat.le_refl _) hob, rfl, q _ (I.hok.fresh (Nat.le_refl _))⟩
def bLstStr : Fb
  | [.str s] => if s.length ≤ 16777216 then some (nw (.lst (chars s))) else none
  | _ => none
theorem reps_chars {G : Hp} (s : Str) : Reps cm G (chars s) (s.cps.toList.map fun c => V.str ⟨#[c]⟩) := by
  unfold chars
  generalize s.cps.toList = cs
  induction cs with
  | nil => exact rfl
  | cons c cs ih => exact ⟨_, _, rfl, rfl, ih⟩
theorem jc_lstStr (hc : X.calm = true) : JC X cm (.type "list") bLstStr := ⟨_, call_lstStr hc, fun lk sp G F H S ds vs res w rr hg Q q => by
  unfold bLstStr at hg
  split at hg
  · split at hg
    · rename_i hz
      cases hg
      obtain ⟨v, rfl, r⟩ := rr.one
      rw [r.str]
      exact ⟨_, rfl, hz, fun b hb => q G _ _ Le.rfl (w.new hb) (ResR.nw upd_same ⟨_, rfl, reps_chars _⟩ (w.gn hb) (w.fn hb) (w.spn hb))⟩
    · cases hg
  · cases hg⟩
/-! ### x, y = a, b -/
def putL : En → List Nat → List D → En := putAll
def sPar (is : List Nat) (fa : AF) : FS := fun e => (fa e).bind fun r => if r.1.length = is.length then some (.nx, putAll (e.st r.2) is r.1) else none
theorem js_par (i j : Nat) {x y : Str} {px py pt : Pos} {kt k2 pt2} {fa : AF} (hc : X.calm = true) (hN : X.N.Nodup) (ha : JK X cm [a, b] fa) (hi : X.N[i]? = some x := by rfl) (hj : X.N[j]? = some y := by rfl) (hij : i ≠ j := by decide) (hx : X.env.scope.names.lookup x = some .local := by rfl) (hy : X.env.scope.names.lookup y = some .local := by rfl)
    (hw : swappedStores [.Tuple [.Name x px, .Name y py] kt pt] (.Tuple [a, b] k2 pt2) X.env = pure (some [x, y]) := by rfl) (hs : swapsWithSole [.Tuple [.Name x px, .Name y py] kt pt] (.Tuple [a, b] k2 pt2) pos.line X.env = pure false := by rfl) :
    JS X cm (.Assign [.Tuple [.Name x px, .Name y py] kt pt] (.Tuple [a, b] k2 pt2) pos) (sPar [i, j] fa) := by
  obtain ⟨t, p, q⟩ := ha.ex
  refine .of ⟨_, ps_par hc hN hi hj hij hx hy p hw hs, fun lk sp G F0 H σ e fl e' x hf D k => ?_⟩
  obtain ⟨⟨ds, S1⟩, z1, hf⟩ := Option.bind_eq_some_iff.mp hf
  split at hf
  · rename_i hl
    cases hf
    obtain ⟨F, l, x, y⟩ := x
    refine q lk sp G F H σ e ds S1 x z1 _ fun G1 H1 vs g1 w1 r1 => ?_
    have hvl : vs.length = 2 := by rw [r1.len]; exact hl
    match vs, hvl with
    | [v, w'], _ => exact ⟨v, w', rfl, k G1 H1 _ g1 (SR.setAll (is := [i, j]) (vs := [v, w']) (SR.next l x y g1 w1) r1)⟩
  · cases hf
theorem js_par3 (i j l : Nat) {x y z : Str} {px py pz pt : Pos} {kt k2 pt2} {fa : AF} (hc : X.calm = true) (hN : X.N.Nodup) (ha : JK X cm [a, b, c] fa) (hi : X.N[i]? = some x := by rfl) (hj : X.N[j]? = some y := by rfl) (hl : X.N[l]? = some z := by rfl) (hij : i ≠ j := by decide) (hil : i ≠ l := by decide) (hjl : j ≠ l := by decide)
    (hx : X.env.scope.names.lookup x = some .local := by rfl) (hy : X.env.scope.names.lookup y = some .local := by rfl) (hz : X.env.scope.names.lookup z = some .local := by rfl)
    (hw : swappedStores [.Tuple [.Name x px, .Name y py, .Name z pz] kt pt] (.Tuple [a, b, c] k2 pt2) X.env = pure (some [x, y, z]) := by rfl) (hs : swapsWithSole [.Tuple [.Name x px, .Name y py, .Name z pz] kt pt] (.Tuple [a, b, c] k2 pt2) pos.line X.env = pure false := by rfl) :
    JS X cm (.Assign [.Tuple [.Name x px, .Name y py, .Name z pz] kt pt] (.Tuple [a, b, c] k2 pt2) pos) (sPar [i, j, l] fa) := by
  obtain ⟨t, p, q⟩ := ha.ex
  refine .of ⟨_, ps_par3 hc hN hi hj hl hij hil hjl hx hy hz p hw hs, fun lk sp G F0 H σ e fl e' x hf D k => ?_⟩
  obtain ⟨⟨ds, S1⟩, z1, hf⟩ := Option.bind_eq_some_iff.mp hf
  split at hf
  · rename_i hle
    cases hf
    obtain ⟨F, l0, x, y⟩ := x
    refine q lk sp G F H σ e ds S1 x z1 _ fun G1 H1 vs g1 w1 r1 => ?_
    have hvl : vs.length = 3 := by rw [r1.len]; exact hle
    match vs, hvl with
    | [v, w', u], _ => exact ⟨v, w', u, rfl, k G1 H1 _ g1 (SR.setAll (is := [i, j, l]) (vs := [v, w', u]) (SR.next l0 x y g1 w1) r1)⟩
  · cases hf
/-- x, y = e: the value is a tuple (a list) that is unpacked -/
def sUnp (is : List Nat) (f : FE) : FS := fun e => (f e).bind fun r => (tgD (.tp is) r.1.d (e.st r.2)).map fun e' => (.nx, e')
theorem js_unp {es : List Expr} {kk : Nat} {tp : Pos} {is : List Nat} {f : FE} (hg : JG X (.Tuple es kk tp) (.tp is)) (h : JE X cm a f) (hs : swapsWithSole [.Tuple es kk tp] a pos.line X.env = pure false := by rfl) (hw : swappedStores [.Tuple es kk tp] a X.env = pure none := by rfl)
    (h1 : (assignEach [.Tuple es kk tp] X.env).map (·.2) = [assign (.Tuple es kk tp) X.env] := by rfl) : JS X cm (.Assign [.Tuple es kk tp] a pos) (sUnp is f) := by
  obtain ⟨t, p, q⟩ := h.ex
  refine .of ⟨_, ps_asg p hg hs hw h1, fun lk sp G F0 H σ e fl e' x hf D k => ?_⟩
  obtain ⟨⟨r, S1⟩, z1, hf⟩ := Option.bind_eq_some_iff.mp hf
  obtain ⟨e2, z2, hf⟩ := Option.map_eq_some_iff.mp hf
  cases hf
  obtain ⟨F, l, x, y⟩ := x
  refine q lk sp G F H σ e r S1 x z1 _ fun G1 H1 v g1 w1 r1 => ?_
  obtain ⟨G2, g2, w2, r2⟩ := r1.freeze w1
  have xs : SR cm lk sp G2 F0 H1 σ (e.st S1) := SR.next l x y (g1.trans g2) w2
  exact tg_stm (K := X.K) xs r2 z2 fun σ' x' => k G2 H1 σ' (g1.trans g2) x'
/-! ### ==, != of data -/
def eqvD (x y : D) : Bool := PyData.eqv (toPy x) (toPy y)
def okEq (d : D) : Bool := isPy d && SeqAt.shaped (toPy d)
def gEqD (neg : Bool) : D → D → Option Rs := fun x y => if okEq x = true ∧ okEq y = true then some (fz (.bl (if neg then !eqvD x y else eqvD x y))) else none
theorem rept_dp {lk : Addr → Option Obj} {sp : Addr} {G F H : Hp} {S : Option Spr} {d : D} {v : V} (w : WR lk sp G F H S) (r : RepT cm G F d v) (h : isPy d = true) : Dp X.K H v (toPy d) := by
  rcases r with r | ⟨p, u, rfl, hp, ho⟩
  · exact Rep.dp (fun p u a b => w.pl a b) d v r h
  · cases d with
    | lst ds =>
      obtain ⟨vs, rfl, rr⟩ := ho
      unfold isPy at h
      unfold toPy
      exact .lst (SqL.of (w.fh p _ hp)) (Reps.dp (fun p u a b => w.pl a b) ds vs rr h)
    | tup ds =>
      obtain ⟨vs, rfl, rr⟩ := ho
      unfold isPy at h
      unfold toPy
      exact .tup (SqT.of (w.fh p _ hp)) (Reps.dp (fun p u a b => w.pl a b) ds vs rr h)
    | dk _ => unfold isPy at h; cases h
    | dt _ => unfold isPy at h; cases h
    | ins _ _ => unfold isPy at h; cases h
    | _ => exact ho.elim
theorem jo_eqD (hu : X.A.units + 64 < cLine) : JO X cm (compareOp .Eq) (gEqD false) := ⟨_, op_eqD hu, fun lk sp G F H S dx dy x y res w rx ry hg Q q => by
  unfold gEqD at hg
  split at hg
  · rename_i h
    cases hg
    unfold okEq at h
    rw [Bool.and_eq_true, Bool.and_eq_true] at h
    exact ⟨_, _, rept_dp w rx h.1.1, rept_dp w ry h.2.1, h.1.2, h.2.2, q G H _ Le.rfl w (ResR.fz rfl)⟩
  · cases hg⟩
theorem jo_neD (hu : X.A.units + 64 < cLine) : JO X cm (compareOp .NotEq) (gEqD true) := ⟨_, op_neD hu, fun lk sp G F H S dx dy x y res w rx ry hg Q q => by
  unfold gEqD at hg
  split at hg
  · rename_i h
    cases hg
    unfold okEq at h
    rw [Bool.and_eq_true, Bool.and_eq_true] at h
    exact ⟨_, _, rept_dp w rx h.1.1, rept_dp w ry h.2.1, h.1.2, h.2.2, q G H _ Le.rfl w (ResR.fz rfl)⟩
  · cases hg⟩
end
/-! ### what is lent: an own thing stands still for one expression -/
def flatS : D → Bool
  | .non => true
  | .bl _ => true
  | .int _ => true
  | .str _ => true
  | _ => false
theorem flat_rep {cm : CM} {G G' : Hp} {d : D} {v : V} (h : flatS d = true) (r : Rep cm G d v) : Rep cm G' d v := by
  cases d with
  | non => exact r
  | bl _ => exact r
  | int _ => exact r
  | str _ => exact r
  | _ => cases h
theorem flat_reps {cm : CM} {G G' : Hp} : ∀ {ds : List D} {vs : List V}, ds.all flatS = true → Reps cm G ds vs → Reps cm G' ds vs
  | [], _, _, r => r
  | d :: ds, _, h, ⟨v, t, e, a, b⟩ => by
    rw [List.all_cons, Bool.and_eq_true] at h
    exact ⟨v, t, e, flat_rep h.1 a, flat_reps h.2 b⟩
theorem flat_repk {cm : CM} {G G' : Hp} : ∀ {ds : List (Key × D)} {vs : List (Key × V)}, (ds.all fun p => flatS p.2) = true → RepK cm G ds vs → RepK cm G' ds vs
  | [], _, _, r => r
  | (k, d) :: ds, _, h, ⟨v, t, e, a, b⟩ => by
    rw [List.all_cons, Bool.and_eq_true] at h
    exact ⟨v, t, e, flat_rep h.1 a, flat_repk h.2 b⟩
theorem flat_repd {cm : CM} {G G' : Hp} : ∀ {ds : List (List Key × D)} {vs : List (List Key × V)}, (ds.all fun p => flatS p.2) = true → RepD cm G ds vs → RepD cm G' ds vs
  | [], _, _, r => r
  | (k, d) :: ds, _, h, ⟨v, t, e, a, b⟩ => by
    rw [List.all_cons, Bool.and_eq_true] at h
    exact ⟨v, t, e, flat_rep h.1 a, flat_repd h.2 b⟩
def flatR (r : Rs) : Bool := if r.own then (match r.d with
  | .lst ds => ds.all flatS
  | .dk ds => ds.all fun p => flatS p.2
  | .dt ds => ds.all fun p => flatS p.2
  | _ => false) else flatS r.d
theorem flat_res {cm : CM} {sp : Addr} {S : Option Spr} {G G' F F' H : Hp} {v : V} {r : Rs} (h : flatR r = true) (x : ResR cm sp S G F H v r) (hg : ∀ p, G p = none → F p = none → G' p = none ∧ F' p = none) : ResR cm sp S G' F' H v r := by
  unfold ResR at x ⊢
  unfold flatR at h
  by_cases o : r.own = true
  · rw [if_pos o] at x h ⊢
    obtain ⟨p, u, rfl, hp, ob, gp, fp, sp', nt⟩ := x
    obtain ⟨g1, f1⟩ := hg p gp fp
    refine ⟨p, u, rfl, hp, ?_, g1, f1, sp', nt⟩
    cases hd : r.d with
    | lst ds =>
      rw [hd] at ob
      simp only [hd] at h
      obtain ⟨vs, e, rr⟩ := ob
      exact ⟨vs, e, flat_reps h rr⟩
    | dk ds =>
      rw [hd] at ob
      simp only [hd] at h
      obtain ⟨vs, e, rr⟩ := ob
      exact ⟨vs, e, flat_repk h rr⟩
    | dt ds =>
      rw [hd] at ob
      simp only [hd] at h
      obtain ⟨vs, e, rr⟩ := ob
      exact ⟨vs, e, flat_repd h rr⟩
    | _ => simp only [hd] at h; cases h
  · rw [if_neg o] at x ⊢
    have ho : r.own = false := by simpa using o
    rw [ho] at h
    exact flat_rep h x
theorem WR.unmv {lk : Addr → Option Obj} {sp : Addr} {G G2 F H H2 : Hp} {S S2 : Option Spr} {A : Addr → Prop} (w : WR lk sp G F H S) (ha : ∀ q, A q → ∃ u, F q = some u) (g : Le (mvG A G F) G2) (w2 : WR lk sp G2 (mvF A F) H2 S2) : WR lk sp G F H2 S2 := by
  have gl : Le G G2 := (mvG_le w ha).trans g
  refine ⟨fun q u e => w2.gh q u (gl q u e), fun q u e => ?_, w.fg, w.lg, fun s e => ?_, w.ft⟩
  · by_cases z : A q
    · have := w2.gh q u (g q u (by rw [mvG_in z]; exact e))
      unfold lkd at this
      rw [w.nl (w.fg q u e)] at this; exact this
    · exact w2.fh q u (by rw [mvF_out z]; exact e)
  · obtain ⟨a, b, c⟩ := w2.sp s e
    have z : ¬ A sp := fun z => by
      obtain ⟨u, h⟩ := ha sp z
      rw [g sp u (by rw [mvG_in z]; exact h)] at b; cases b
    exact ⟨a, gl.none b, by have c' : mvF A F sp = none := c; rw [mvF_out z] at c'; exact c'⟩
/-- lent to the expression: the slot i -/
def fLend (i : Nat) (f : FE) : FE := fun e => (f (e.still i)).bind fun r => if flatR r.1 = true then some r else none
def tLend (i : Nat) (f : TF) : TF := fun e => f (e.still i)
theorem lend_core {cm : CM} {lk : Addr → Option Obj} {sp : Addr} {G F H : Hp} {σ : St} {e : En} (i : Nat) (x : ER cm lk sp G F H σ e) : ∃ G1 F1, ER cm lk sp G1 F1 H σ (e.still i) ∧
    (∀ G2 H2 S2, Le G1 G2 → WR lk sp G2 F1 H2 S2 → WR lk sp G F H2 S2 ∧ ∀ p, G2 p = none → F1 p = none → G p = none ∧ F p = none) := by
  have main : ∀ {c : Cell} {d : D}, e.cs[i]? = some c → ((c = .own d) ∨ ∃ ds, c = .own2 ds ∧ d = .dk ds) → ∃ G1 F1, ER cm lk sp G1 F1 H σ (e.put i (.frz d)) ∧
      (∀ G2 H2 S2, Le G1 G2 → WR lk sp G2 F1 H2 S2 → WR lk sp G F H2 S2 ∧ ∀ p, G2 p = none → F1 p = none → G p = none ∧ F p = none) := fun {c d} hc hd => by
    obtain ⟨o, h1, h2⟩ := x.c i c hc
    obtain ⟨hl, x'⟩ := x.mv hc h1 hd
    have ha : ∀ q, Ft F o c q → ∃ u, F q = some u := fun q f => Ft.some h2 f
    refine ⟨_, _, x', fun G2 H2 S2 g w2 => ⟨x.w.unmv ha g w2, fun p gp fp => ⟨(hl.trans g).none gp, ?_⟩⟩⟩
    by_cases z : Ft F o c p
    · obtain ⟨u, h⟩ := ha p z
      rw [g p u (by rw [mvG_in z]; exact h)] at gp; cases gp
    · have fp' : mvF (Ft F o c) F p = none := fp
      rw [mvF_out z] at fp'; exact fp'
  unfold En.still
  split
  · rename_i d hd; exact main hd (.inl rfl)
  · rename_i ds hd; exact main hd (.inr ⟨ds, rfl, rfl⟩)
  · exact ⟨G, F, x, fun G2 H2 S2 g w2 => ⟨⟨fun q u h => w2.gh q u (g q u h), w2.fh, x.w.fg, x.w.lg, (fun s h => ⟨(w2.sp s h).1, g.none (w2.sp s h).2.1, (w2.sp s h).2.2⟩), x.w.ft⟩, fun p a b => ⟨g.none a, b⟩⟩⟩
section
variable {X : Cx} {cm : CM} {a : Expr}
theorem still_S (e : En) (i : Nat) : (e.still i).S = e.S := by
  unfold En.still
  split <;> rfl
theorem j_lend (i : Nat) {f : FE} (h : JE X cm a f) : JE X cm a (fLend i f) := by
  obtain ⟨t, p, q⟩ := h.ex
  refine .of ⟨t, p, fun lk sp G F H σ e r S' x hf Q k => ?_⟩
  obtain ⟨⟨r1, S1⟩, z1, hf⟩ := Option.bind_eq_some_iff.mp hf
  split at hf
  · rename_i hfl
    cases hf
    obtain ⟨G1, F1, x1, back⟩ := lend_core i x
    refine q lk sp G1 F1 H σ _ r S' x1 z1 Q fun G2 H2 v g2 w2 r2 => ?_
    obtain ⟨w3, hb⟩ := back G2 H2 S' g2 w2
    exact k G H2 v Le.rfl w3 (flat_res hfl r2 hb)
  · cases hf
theorem jt_lend (i : Nat) {f : TF} (h : JT X cm a f) : JT X cm a (tLend i f) := by
  obtain ⟨t, p, q⟩ := h.ex
  refine .of ⟨t, p, fun lk sp G F H σ e b S' x hf Q k => ?_⟩
  obtain ⟨G1, F1, x1, back⟩ := lend_core i x
  refine q lk sp G1 F1 H σ _ b S' x1 hf Q fun G2 H2 g2 w2 => ?_
  exact k G H2 Le.rfl (back G2 H2 S' g2 w2).1
end
end Al


set_option Elab.async false
set_option linter.all false
set_option maxRecDepth 100000
/-! Comprehensions of two loops; dicts compared. -/
namespace Al
open PySem PySem.Spec PyProof.Rows L2
/-- the inner loop of a comprehension: it appends to the list at Dl -/
theorem app_core {K : PySem.W.Frag} {cm : CM} {T : Tg} {vs : List Nat} {c : TF} {f : FE} {lk : Addr → Option Obj} {sp : Addr} {G F H : Hp} {σ : St} {e : En} {S1 S2 : Option Spr} {ds rs acc0 : List D} {us0 : List V} {Dl : Addr} {J : It} {Nx : Hp → Prop} {n0 : Nat}
    (hB : Le e.B G) (hcell : CellsR cm sp G F σ e.cs) (hsep : Sep F σ e.cs) (fo : Foll cm lk sp G ds J) (w : WR lk sp G F H S1) (gD : G Dl = none) (fD : F Dl = none) (sD : ∀ s, S1 = some s → Dl ≠ sp) (hDl : H Dl = some (.lst us0)) (ra : Reps cm G acc0 us0) (ha : acc0.length ≤ n0) (hz : n0 + ds.length ≤ 10000000) (hvs : ∀ k ∈ T.slots, k ∈ vs)
    (z2 : compF T c f (e.wipe vs) ds S1 = some (rs, S2))
    (k : ∀ G' H' us, Le G G' → WR lk sp G' F H' S2 → G' Dl = none → (∀ s, S2 = some s → Dl ≠ sp) → H' Dl = some (.lst us) → Reps cm G' (acc0 ++ rs) us → (acc0 ++ rs).length ≤ n0 + ds.length → Nx H') :
    ∃ W1 : Nat → Nat → Hp → Prop, (∃ m, W1 0 m H) ∧ ∀ j m H, W1 j m H → (J.stop j H ∧ Nx H) ∨ (J.go j H ∧ ∃ Nx1 : Hp → Prop, (∀ H', Nx1 H' → ∃ m', m' < m ∧ W1 (j + 1) m' H') ∧
      ∀ x H', J.yld j H x H' → tgT K T x (wipe σ vs) H' fun σ3 H5 => wipe σ3 vs = wipe σ vs ∧ tT cm c σ3 H5 fun b H6 => if b = true then tE cm f σ3 H6 fun y H7 => ∃ acc, H7 Dl = some (.lst acc) ∧ acc.length < sizeLine ∧ Nx1 (upd H7 Dl (.lst (acc ++ [y]))) else Nx1 H6) := by
  have cw : CellsR cm sp G F (wipe σ vs) (e.wipe vs).cs := wiped vs hcell
  refine ⟨fun i m H1 => ∃ G1 acc S, Le G G1 ∧ WR lk sp G1 F H1 S ∧ G1 Dl = none ∧ (∀ s, S = some s → Dl ≠ sp) ∧ i ≤ ds.length ∧ m = ds.length - i ∧ acc.length ≤ n0 + i ∧
    ∃ us, H1 Dl = some (.lst us) ∧ Reps cm G1 acc us ∧ ∃ more, compF T c f (e.wipe vs) (ds.drop i) S = some (more, S2) ∧ acc0 ++ rs = acc ++ more, ?_, ?_⟩
  · exact ⟨_, G, acc0, S1, Le.rfl, w, gD, sD, Nat.zero_le _, rfl, ha, us0, hDl, ra, rs, by rw [List.drop_zero]; exact z2, rfl⟩
  · rintro i m H1 ⟨G1, acc, S, g1, w1, gD, sD, hi', rfl, hacc, us, hDl, ra, more, hm, hrs⟩
    by_cases hlt : i < ds.length
    · obtain ⟨go, yl⟩ := (fo G1 F H1 S i g1 w1).1 ds[i] (List.getElem?_eq_getElem hlt)
      rw [List.drop_eq_getElem_cons hlt] at hm
      unfold compF at hm
      obtain ⟨e1, t1, hm⟩ := Option.bind_eq_some_iff.mp hm
      obtain ⟨⟨b, Sb⟩, t2, hm⟩ := Option.bind_eq_some_iff.mp hm
      have wk := w1.keep hDl gD sD (fun xs z => by cases z)
      have yl' := fun x H2 y => ((fo G1 (upd F Dl (.lst us)) H1 S i g1 wk).1 ds[i] (List.getElem?_eq_getElem hlt)).2 x H2 y
      refine .inr ⟨go, fun H' => ∃ G1 acc S, Le G G1 ∧ WR lk sp G1 F H' S ∧ G1 Dl = none ∧ (∀ s, S = some s → Dl ≠ sp) ∧ acc.length ≤ n0 + (i + 1) ∧
        ∃ us, H' Dl = some (.lst us) ∧ Reps cm G1 acc us ∧ ∃ more, compF T c f (e.wipe vs) (ds.drop (i + 1)) S = some (more, S2) ∧ acc0 ++ rs = acc ++ more,
        fun H' ⟨G1, acc, S, a1, a2, a3, a5, a6, a7⟩ => ⟨_, by omega, G1, acc, S, a1, a2, a3, a5, hlt, rfl, a6, a7⟩, fun v H2 y => ?_⟩
      obtain ⟨G2, g2, w2, r2⟩ := yl' v H2 y
      have fk : Le F (upd F Dl (.lst us)) := Le.upd fD
      have x2 : ER cm lk sp G2 (upd F Dl (.lst us)) H2 (wipe σ vs) ((e.wipe vs).st S) := ⟨w2, cw.mono (g1.trans g2) fk, (wipedS vs hsep).up fk cw, (show Le (e.wipe vs).B _ by rw [wipe_B]; exact ((hB.trans g1).trans g2))⟩
      refine tg_exp x2 r2 t1 hvs fun σ3 x3 wp => ⟨wp, ?_⟩
      refine ⟨lk, sp, G2, upd F Dl (.lst us), e1, b, Sb, x3, t2, fun G3 H3 g3 w3 => ?_⟩
      have sD3 : ∀ s, Sb = some s → Dl ≠ sp := fun s q z => by
        have := (w3.sp s q).2.2
        rw [← z, upd_same] at this; cases this
      have gD3 : G3 Dl = none := w3.fg Dl _ upd_same
      cases b with
      | false => exact ⟨G3, acc, Sb, (g1.trans g2).trans g3, w3.lessF fk, gD3, sD3, by omega, us, w3.fh Dl _ upd_same, ra.mono (g2.trans g3) _ _, more, hm, hrs⟩
      | true =>
        obtain ⟨⟨r4, S4⟩, t3, hm⟩ := Option.bind_eq_some_iff.mp hm
        obtain ⟨⟨more', S5⟩, t4, hm⟩ := Option.map_eq_some_iff.mp hm
        cases hm
        refine ⟨lk, sp, G3, upd F Dl (.lst us), e1.st Sb, r4, S4, x3.next g3 Le.rfl w3, t3, fun G4 H4 v4 g4 w4 rr => ?_⟩
        obtain ⟨G5, g5, w5, r5⟩ := rr.freeze w4
        have gD5 : G5 Dl = none := w5.fg Dl _ upd_same
        have sD5 : ∀ s, S4 = some s → Dl ≠ sp := fun s q z => by
          have := (w5.sp s q).2.2
          rw [← z, upd_same] at this; cases this
        have gg : Le G G5 := (((g1.trans g2).trans g3).trans g4).trans g5
        have hD5 := w5.fh Dl _ upd_same
        have ra5 := ra.mono (((g2.trans g3).trans g4).trans g5) _ _
        refine ⟨us, hD5, Nat.lt_of_lt_of_le (by rw [ra.len]; omega : us.length < 10000001) (by decide), G5, acc ++ [r4.d], S4, gg, ?_, gD5, sD5, by rw [List.length_append]; simp; omega, us ++ [v4], upd_same, ra5.app (Reps.one r5), more', t4, by rw [List.append_assoc]; exact hrs⟩
        have wl := w5.lessF fk
        have ne : ∀ {q : Addr} {u : HO}, G5 q = some u → q ≠ Dl := fun {q u} h z => by rw [z, gD5] at h; cases h
        have nf : ∀ {q : Addr} {u : HO}, F q = some u → q ≠ Dl := fun {q u} h z => by rw [z, fD] at h; cases h
        exact ⟨fun q u h => by rw [upd_ne (ne h)]; exact wl.gh q u h, fun q u h => by rw [upd_ne (nf h)]; exact wl.fh q u h, wl.fg, wl.lg, fun s h => ⟨by rw [upd_ne (sD5 s h).symm]; exact (wl.sp s h).1, (wl.sp s h).2⟩, wl.ft⟩
    · have e0 : i = ds.length := by omega
      subst e0
      rw [List.drop_eq_nil_of_le (Nat.le_refl _)] at hm
      cases hm
      rw [List.append_nil] at hrs
      exact .inl ⟨(fo G1 F H1 _ _ g1 w1).2 (Nat.le_refl _), k G1 H1 us g1 w1 gD sD hDl (by rw [hrs]; exact ra) (by rw [hrs]; exact hacc)⟩
theorem tg_exp2 {cm : CM} {lk : Addr → Option Obj} {sp : Addr} {G F F' H : Hp} {σ : St} {e : En} {K : PySem.W.Frag} {T : Tg} {d : D} {v : V} {e' : En} {vs : List Nat} (x : ER cm lk sp G F H (wipe σ vs) e) (y : ER cm lk sp G F' H (wipe σ vs) e) (r : Rep cm G d v) (h : tgD T d e = some e') (hv : ∀ k ∈ T.slots, k ∈ vs) {Q : St → Hp → Prop}
    (q : ∀ σ', ER cm lk sp G F H σ' e' → ER cm lk sp G F' H σ' e' → wipe σ' vs = wipe σ vs → Q σ' H) : tgT K T v (wipe σ vs) H Q := by
  have wp : ∀ {is : List Nat} {us : List V}, (∀ k ∈ is, k ∈ vs) → wipe (setAll (wipe σ vs) is us) vs = wipe σ vs := fun {is us} hi => by
    obtain ⟨a, b⟩ := setAll_ext (is := is) (vs := us) (σ := wipe σ vs)
    rw [wipe_ext a fun k hk => b k fun z => hk (hi k z), wipe_wipe]
  cases T with
  | nm i => cases h; exact q _ (x.setF r) (y.setF r) (wp (is := [i]) (us := [v]) hv)
  | tp is =>
    have w : ∀ p u, G p = some u → ¬ Lockable u → H p = some u := fun p u a b => x.w.pl a b
    cases d with
    | tup ds =>
      have h : (if ds.length = is.length then some (putAll e is ds) else none) = some e' := h
      split at h
      · rename_i hl
        cases h
        obtain ⟨p, u, rfl, hp, us, rfl, rs⟩ := r
        exact ⟨p, us, rfl, .inl (SqT.of (w p _ hp fun z => z)), by rw [rs.len]; exact hl, q _ (x.setAll rs) (y.setAll rs) (wp hv)⟩
      · cases h
    | lst ds =>
      have h : (if ds.length = is.length then some (putAll e is ds) else none) = some e' := h
      split at h
      · rename_i hl
        cases h
        obtain ⟨p, u, rfl, hp, us, rfl, rs⟩ := r
        exact ⟨p, us, rfl, .inr (SqL.of (w p _ hp fun z => z)), by rw [rs.len]; exact hl, q _ (x.setAll rs) (y.setAll rs) (wp hv)⟩
      · cases h
    | _ => cases h
/-- [.. for .. in .. for .. in ..] -/
def compF2 (T : Tg) (c : TF) (s1 : AF) (T1 : Tg) (vs1 : List Nat) (c1 : TF) (f : FE) (e : En) : List D → Option Spr → Option (List D × Option Spr)
  | [], S => some ([], S)
  | d :: ds, S => (tgD T d (e.st S)).bind fun e1 => (c e1).bind fun b => if b.1 = true then (s1 (e1.st b.2)).bind fun q => if q.1.length ≤ 10000 then (compF T1 c1 f (e1.wipe vs1) q.1 q.2).bind fun r => (compF2 T c s1 T1 vs1 c1 f e ds r.2).map fun z => (r.1 ++ z.1, z.2) else none
      else compF2 T c s1 T1 vs1 c1 f e ds b.2
theorem comp2_core {K : PySem.W.Frag} {cm : CM} {wi : TI} {T T1 : Tg} {vs vs1 : List Nat} {c c1 : TF} {s1 : AF} {f : FE} {lk : Addr → Option Obj} {sp : Addr} {G F H : Hp} {σ : St} {e : En} {S1 S2 : Option Spr} {ds rs : List D} {Q : VK} (x : ER cm lk sp G F H σ e)
    (hi0 : ∀ R : It → Hp → Prop, (∀ G' H' J, Le G G' → WR lk sp G' F H' S1 → Foll cm lk sp G' ds J → R J H') → wi σ H R) (hz : ds.length ≤ 1000) (hvs : ∀ k ∈ T.slots, k ∈ vs) (hvs1 : ∀ k ∈ T1.slots, k ∈ vs1) (z2 : compF2 T c s1 T1 vs1 c1 f (e.wipe vs) ds S1 = some (rs, S2))
    (k : ∀ G' H' v, Le G G' → WR lk sp G' F H' S2 → ResR cm sp S2 G' F H' v (nw (.lst rs)) → Q v H') : tLc2 wi (tgT K T) (tT cm c) (tI cm s1) (tgT K T1) (tT cm c1) (tE cm f) vs vs1 σ H Q := by
  refine hi0 _ fun G' H' J g' w' fo Dl hD => ?_
  have cw : CellsR cm sp G' F (wipe σ vs) (e.wipe vs).cs := (wiped vs x.c).mono g' Le.rfl
  refine ⟨fun i m H1 => ∃ G1 acc S, Le G' G1 ∧ WR lk sp G1 F H1 S ∧ G1 Dl = none ∧ F Dl = none ∧ (∀ s, S = some s → Dl ≠ sp) ∧ i ≤ ds.length ∧ m = ds.length - i ∧ acc.length ≤ i * 10000 ∧
    ∃ us, H1 Dl = some (.lst us) ∧ Reps cm G1 acc us ∧ ∃ more, compF2 T c s1 T1 vs1 c1 f (e.wipe vs) (ds.drop i) S = some (more, S2) ∧ rs = acc ++ more, ?_, ?_⟩
  · refine ⟨_, G', [], S1, Le.rfl, w'.new hD, w'.gn hD, w'.fn hD, w'.spn hD, Nat.zero_le _, rfl, Nat.zero_le _, [], upd_same, rfl, rs, by rw [List.drop_zero]; exact z2, rfl⟩
  · rintro i m H1 ⟨G1, acc, S, g1, w1, gD, fD, sD, hi', rfl, hacc, us, hDl, ra, more, hm, hrs⟩
    by_cases hlt : i < ds.length
    · obtain ⟨go, yl⟩ := (fo G1 F H1 S i g1 w1).1 ds[i] (List.getElem?_eq_getElem hlt)
      rw [List.drop_eq_getElem_cons hlt] at hm
      unfold compF2 at hm
      obtain ⟨e1, t1, hm⟩ := Option.bind_eq_some_iff.mp hm
      obtain ⟨⟨b, Sb⟩, t2, hm⟩ := Option.bind_eq_some_iff.mp hm
      have wk := w1.keep hDl gD sD (fun xs z => by cases z)
      have yl' := fun x H2 y => ((fo G1 (upd F Dl (.lst us)) H1 S i g1 wk).1 ds[i] (List.getElem?_eq_getElem hlt)).2 x H2 y
      refine .inr ⟨go, fun H' => ∃ G1 acc S, Le G' G1 ∧ WR lk sp G1 F H' S ∧ G1 Dl = none ∧ F Dl = none ∧ (∀ s, S = some s → Dl ≠ sp) ∧ acc.length ≤ (i + 1) * 10000 ∧
        ∃ us, H' Dl = some (.lst us) ∧ Reps cm G1 acc us ∧ ∃ more, compF2 T c s1 T1 vs1 c1 f (e.wipe vs) (ds.drop (i + 1)) S = some (more, S2) ∧ rs = acc ++ more,
        fun H' ⟨G1, acc, S, a1, a2, a3, a4, a5, a6, a7⟩ => ⟨_, by omega, G1, acc, S, a1, a2, a3, a4, a5, hlt, rfl, a6, a7⟩, fun v H2 y => ?_⟩
      obtain ⟨G2, g2, w2, r2⟩ := yl' v H2 y
      have fk : Le F (upd F Dl (.lst us)) := Le.upd fD
      have x2 : ER cm lk sp G2 (upd F Dl (.lst us)) H2 (wipe σ vs) ((e.wipe vs).st S) := ⟨w2, cw.mono (g1.trans g2) fk, (wipedS vs x.s).up fk cw, (show Le (e.wipe vs).B _ by rw [wipe_B]; exact (((x.b.trans g').trans g1).trans g2))⟩
      have x2o : ER cm lk sp G2 F H2 (wipe σ vs) ((e.wipe vs).st S) := ⟨w2.lessF fk, cw.mono (g1.trans g2) Le.rfl, (wipedS vs x.s), (show Le (e.wipe vs).B _ by rw [wipe_B]; exact (((x.b.trans g').trans g1).trans g2))⟩
      refine tg_exp2 x2 x2o r2 t1 hvs fun σ3 x3 x3o wp => ⟨wp, ?_⟩
      refine ⟨lk, sp, G2, upd F Dl (.lst us), e1, b, Sb, x3, t2, fun G3 H3 g3 w3 => ?_⟩
      have sD3 : ∀ s, Sb = some s → Dl ≠ sp := fun s q z => by
        have := (w3.sp s q).2.2
        rw [← z, upd_same] at this; cases this
      have gD3 : G3 Dl = none := w3.fg Dl _ upd_same
      cases b with
      | false => exact ⟨G3, acc, Sb, (g1.trans g2).trans g3, w3.lessF fk, gD3, fD, sD3, by omega, us, w3.fh Dl _ upd_same, ra.mono (g2.trans g3) _ _, more, hm, hrs⟩
      | true =>
        obtain ⟨⟨ds1, Si⟩, t3, hm⟩ := Option.bind_eq_some_iff.mp hm
        rw [if_pos rfl] at *
        split at hm
        · rename_i hl1
          obtain ⟨⟨rs1, Sr⟩, t4, hm⟩ := Option.bind_eq_some_iff.mp hm
          obtain ⟨⟨more', S5⟩, t5, hm⟩ := Option.map_eq_some_iff.mp hm
          cases hm
          have x3' : ER cm lk sp G3 (upd F Dl (.lst us)) H3 σ3 (e1.st Sb) := x3.next g3 Le.rfl w3
          refine ⟨lk, sp, G3, upd F Dl (.lst us), e1.st Sb, ds1, Si, x3', t3, fun G4 H4 J1 g4 w4 fo1 => ?_⟩
          have gD4 : G4 Dl = none := w4.fg Dl _ upd_same
          have sD4 : ∀ s, Si = some s → Dl ≠ sp := fun s q z => by
            have := (w4.sp s q).2.2
            rw [← z, upd_same] at this; cases this
          have w4' := w4.lessF fk
          have gg : Le G' G4 := (((g1.trans g2).trans g3).trans g4)
          -- the slots do not own the new list
          have cell4 : CellsR cm sp G4 F σ3 e1.cs ∧ Sep F σ3 e1.cs := ⟨x3o.c.mono (g3.trans g4) Le.rfl, x3o.s⟩
          exact app_core (K := K) (x3o.b.trans (g3.trans g4)) cell4.1 cell4.2 fo1 w4' gD4 fD sD4 (w4.fh Dl _ upd_same) (ra.mono ((g2.trans g3).trans g4) _ _) hacc (by have : ds1.length ≤ 10000 := hl1; omega) hvs1 t4 fun G6 H6 us6 g6 w6 gD6 sD6 hD6 r6 hl6 =>
            ⟨G6, acc ++ rs1, Sr, gg.trans g6, w6, gD6, fD, sD6, by have : ds1.length ≤ 10000 := hl1; omega, us6, hD6, r6, more', t5, by rw [List.append_assoc]; exact hrs⟩
        · cases hm
    · have e0 : i = ds.length := by omega
      subst e0
      rw [List.drop_eq_nil_of_le (Nat.le_refl _)] at hm
      cases hm
      rw [List.append_nil] at hrs
      subst hrs
      exact .inl ⟨(fo G1 F H1 _ _ g1 w1).2 (Nat.le_refl _), k G1 H1 _ (g'.trans g1) w1 (ResR.nw hDl ⟨us, rfl, ra⟩ gD fD sD)⟩

def fComp2 (s : AF) (T : Tg) (vs : List Nat) (c : TF) (s1 : AF) (T1 : Tg) (vs1 : List Nat) (c1 : TF) (f : FE) : FE := fun e => (s e).bind fun r => if r.1.length ≤ 1000 ∧ (∀ k ∈ T.slots, k ∈ vs) ∧ ∀ k ∈ T1.slots, k ∈ vs1 then (compF2 T c s1 T1 vs1 c1 f (e.wipe vs) r.1 r.2).map fun q => (nw (.lst q.1), q.2) else none
def fComp2D (s : DF) (T : Tg) (vs : List Nat) (c : TF) (s1 : AF) (T1 : Tg) (vs1 : List Nat) (c1 : TF) (f : FE) : FE := fun e => (s e).bind fun ds => if ds.length ≤ 1000 ∧ (∀ k ∈ T.slots, k ∈ vs) ∧ ∀ k ∈ T1.slots, k ∈ vs1 then (compF2 T c s1 T1 vs1 c1 f (e.wipe vs) ds e.S).map fun q => (nw (.lst q.1), q.2) else none
section
variable {X : Cx} {cm : CM} {elt tg iter tg1 iter1 : Expr} {ifs ifs1 : List Expr} {scope : Scope} {own : List (Str × Nat)} {pos : Pos} {T T1 : Tg} {c c1 : TF} {s1 : AF} {f : FE}
theorem j_lc2 {s : AF} (own : List (Str × Nat)) (vs1 : List Nat) (hc : X.calm = true) (hN : X.N.Nodup) (hi : JI X cm tg iter s) (ok : BlkOk X.N X.env.scope scope own) (hv : ∀ i ∈ vs1, i ∈ own.map (·.2)) (hg : BlkE X scope fun Y => JG Y tg T) (ht : BlkE X scope fun Y => JTs Y cm ifs c)
    (hi1 : BlkE X scope fun Y => JI Y cm tg1 iter1 s1) (hg1 : BlkE X scope fun Y => JG Y tg1 T1) (ht1 : BlkE X scope fun Y => JTs Y cm ifs1 c1) (he : BlkE X scope fun Y => JE Y cm elt f)
    (hs : ∀ x, foldedSetIterable iter X.env x = pure x := by intro _; rfl) (hs1 : ∀ (env : Env) x, foldedSetIterable iter1 env x = pure x := by intro _ _; rfl) :
    JE X cm (.ListComp elt [⟨tg, iter, ifs, 0⟩, ⟨tg1, iter1, ifs1, 0⟩] scope pos) (fComp2 s T (own.map (·.2)) c s1 T1 vs1 c1 f) := by
  obtain ⟨t, p, q⟩ := hi.ex
  refine .of ⟨_, pe_lc2 (pos := pos) (g := tgT X.K T) (tt := tT cm c) (wi1 := tI cm s1) (g1 := tgT X.K T1) (tt1 := tT cm c1) (te := tE cm f) hc hN p ok hv hg ht hi1 hg1 ht1 he hs hs1, fun lk sp G F H σ e r S' x hf0 Q k => ?_⟩
  obtain ⟨⟨ds, S1⟩, z1, hf⟩ := Option.bind_eq_some_iff.mp hf0
  clear hf0
  split at hf
  · rename_i hcc
    obtain ⟨hz, hvs, hvs1⟩ := hcc
    obtain ⟨⟨rs, S2⟩, z2, hf⟩ := Option.map_eq_some_iff.mp hf
    cases hf
    exact comp2_core x (fun R k => q lk sp G F H σ e ds S1 x z1 R k) hz hvs hvs1 z2 k
  · cases hf
theorem j_lc2D {s : DF} (own : List (Str × Nat)) (vs1 : List Nat) (hc : X.calm = true) (hN : X.N.Nodup) (hi : JD X cm tg iter s) (ok : BlkOk X.N X.env.scope scope own) (hv : ∀ i ∈ vs1, i ∈ own.map (·.2)) (hg : BlkE X scope fun Y => JG Y tg T) (ht : BlkE X scope fun Y => JTs Y cm ifs c)
    (hi1 : BlkE X scope fun Y => JI Y cm tg1 iter1 s1) (hg1 : BlkE X scope fun Y => JG Y tg1 T1) (ht1 : BlkE X scope fun Y => JTs Y cm ifs1 c1) (he : BlkE X scope fun Y => JE Y cm elt f)
    (hs : ∀ x, foldedSetIterable iter X.env x = pure x := by intro _; rfl) (hs1 : ∀ (env : Env) x, foldedSetIterable iter1 env x = pure x := by intro _ _; rfl) :
    JE X cm (.ListComp elt [⟨tg, iter, ifs, 0⟩, ⟨tg1, iter1, ifs1, 0⟩] scope pos) (fComp2D s T (own.map (·.2)) c s1 T1 vs1 c1 f) := by
  obtain ⟨t, p, q⟩ := hi
  have pe := pe_lc2 (pos := pos) (g := tgT X.K T) (tt := tT cm c) (wi1 := tI cm s1) (g1 := tgT X.K T1) (tt1 := tT cm c1) (te := tE cm f) hc hN p ok hv hg ht hi1 hg1 ht1 he hs hs1
  refine .of ⟨_, PE_or pe (pe_lock pe), fun lk sp G F H σ e r S' x hf0 Q k => ?_⟩
  obtain ⟨ds, z1, hf⟩ := Option.bind_eq_some_iff.mp hf0
  clear hf0
  split at hf
  · rename_i hcc
    obtain ⟨hz, hvs, hvs1⟩ := hcc
    obtain ⟨⟨rs, S2⟩, z2, hf⟩ := Option.map_eq_some_iff.mp hf
    cases hf
    obtain ⟨d, u, hd, hl, rr⟩ := q sp G F σ e ds x.c z1
    cases hk : lk d with
    | some od => exact .inl (comp2_core x (fun R k => rr lk H e.S od x.w hk R k) hz hvs hvs1 z2 k)
    | none =>
      have hu : H d = some u := by
        have := x.w.gh d u hd
        unfold lkd at this
        rw [hk] at this; exact this
      refine .inr ⟨d, u, hu, hl.mut, fun od => ?_⟩
      have xl : ER cm (lkS lk d od) sp G F (upd H d (.frz od u)) σ e := ⟨x.w.lock hd hl, x.c, x.s, x.b⟩
      exact comp2_core xl (fun R k => rr (lkS lk d od) _ e.S od xl.w lkS_same R k) hz hvs hvs1 z2 fun G' H' v g w r =>
        let ⟨a, b⟩ := w.unlock (g _ _ hd) hk
        ⟨a, k G' _ v g b (r.unlock (g _ _ hd))⟩
  · cases hf
/-! dicts compared: both are new, and equal -/
def eqS : D → D → Bool
  | .non, .non => true
  | .bl a, .bl b => a == b
  | .int a, .int b => a == b
  | .str a, .str b => a == b
  | _, _ => false
theorem eqS_eq {a b : D} (h : eqS a b = true) : a = b ∧ flatS a = true := by
  unfold eqS at h
  split at h
  · exact ⟨rfl, rfl⟩
  · rw [eq_of_beq h]; exact ⟨rfl, rfl⟩
  · rw [eq_of_beq h]; exact ⟨rfl, rfl⟩
  · rw [eq_of_beq h]; exact ⟨rfl, rfl⟩
  · cases h
theorem flat_uniq {G : Hp} {d : D} {v w : V} (h : flatS d = true) (r1 : Rep cm G d v) (r2 : Rep cm G d w) : v = w ∧ flatB w = true := by
  cases d with
  | non => exact ⟨(show v = V.non from r1).trans (show w = V.non from r2).symm, by rw [show w = V.non from r2]; rfl⟩
  | bl _ => exact ⟨(show v = V.bl _ from r1).trans (show w = V.bl _ from r2).symm, by rw [show w = V.bl _ from r2]; rfl⟩
  | int _ => exact ⟨(show v = V.int _ from r1).trans (show w = V.int _ from r2).symm, by rw [show w = V.int _ from r2]; rfl⟩
  | str _ => exact ⟨(show v = V.str _ from r1).trans (show w = V.str _ from r2).symm, by rw [show w = V.str _ from r2]; rfl⟩
  | _ => cases h
def dictEq (ks ls : List (Key × D)) : Bool := ks.length == ls.length && ks.all fun p => match getK ls p.1 with
  | some d => eqS d p.2
  | none => false
def fDeq (neg : Bool) (fa fb : FE) : FE := fun e => (fa e).bind fun x => (fb (e.st x.2)).bind fun y => match x.1.own, x.1.d, y.1.own, y.1.d with
  | true, .dk ks, true, .dk ls => if dictEq ks ls = true then some (fz (.bl (!neg)), y.2) else none
  | _, _, _, _ => none
theorem dictEq_at {G : Hp} {ks ls : List (Key × D)} {kv lv : List (Key × V)} (h : dictEq ks ls = true) (r1 : RepK cm G ks kv) (r2 : RepK cm G ls lv) : kv.length = lv.length ∧ ∀ p ∈ kv, valV lv p.1 = some p.2 ∧ flatB p.2 = true := by
  unfold dictEq at h
  rw [Bool.and_eq_true] at h
  refine ⟨by rw [r1.len, r2.len]; exact eq_of_beq h.1, fun p hp => ?_⟩
  obtain ⟨i, hi⟩ := List.getElem?_of_mem hp
  obtain ⟨d, h1, h2⟩ := r1.keyAt (k := p.1) (v := p.2) (by rw [hi])
  have h3 := List.all_eq_true.mp h.2 (p.1, d) (List.mem_of_getElem? h1)
  simp only at h3
  cases hg : getK ls p.1 with
  | none => rw [hg] at h3; cases h3
  | some d2 =>
    rw [hg] at h3
    obtain ⟨v, h4, h5⟩ := (r2.get (k := p.1)).1 d2 hg
    obtain ⟨e, f⟩ := eqS_eq h3
    subst e
    obtain ⟨e1, e2⟩ := flat_uniq f h5 h2
    rw [h4, e1]
    exact ⟨rfl, e2⟩
theorem deq_ok {r : R2} {neg : Bool} {ta tb : TE} {fa fb : FE} (a2 : EOk cm ta fa) (b2 : EOk cm tb fb)
    (hr : ∀ a b ks ls H (Q : VK), H a = some (.dK ks) → H b = some (.dK ls) → ks.length = ls.length → (∀ p ∈ ks, valV ls p.1 = some p.2 ∧ flatB p.2 = true) → Q (.bl (!neg)) H → r (.ref a) (.ref b) H Q) : EOk cm (tOp r ta tb) (fDeq neg fa fb) := fun lk sp G F H σ e res S' x hf0 Q k => by
  obtain ⟨⟨r1, S1⟩, z1, hf1⟩ := Option.bind_eq_some_iff.mp hf0
  obtain ⟨⟨r2, S2⟩, z2, hf⟩ := Option.bind_eq_some_iff.mp hf1
  clear hf0 hf1
  refine a2 lk sp G F H σ e r1 S1 x z1 _ fun G1 H1 v1 g1 w1 q1 => ?_
  have key : r1.own = true ∧ r2.own = true ∧ ∃ ks ls, r1.d = .dk ks ∧ r2.d = .dk ls ∧ dictEq ks ls = true ∧ res = fz (.bl (!neg)) ∧ S' = S2 := by
    split at hf
    · rename_i ks ls h1 h2 h3 h4
      split at hf
      · rename_i h5
        cases hf
        exact ⟨h1, h3, ks, ls, h2, h4, h5, rfl, rfl⟩
      · cases hf
    · cases hf
  obtain ⟨o1, o2, ks, ls, d1, d2, hq, rfl, rfl⟩ := key
  unfold ResR at q1
  rw [if_pos o1, d1] at q1
  obtain ⟨p, u, rfl, hp, ⟨kv, rfl, rk⟩, gp, fp, sp1, nt⟩ := q1
  have w1' := w1.keep hp gp sp1 nt
  have x1 : ER cm lk sp G1 (upd F p (.dK kv)) H1 σ (e.st S1) := x.next g1 (Le.upd fp) w1'
  refine b2 lk sp G1 (upd F p (.dK kv)) H1 σ _ r2 S' x1 z2 _ fun G2 H2 v2 g2 w2 q2 => ?_
  unfold ResR at q2
  rw [if_pos o2, d2] at q2
  obtain ⟨p2, u2, rfl, hp2, ⟨lv, rfl, rl⟩, _⟩ := q2
  obtain ⟨e1, e2⟩ := dictEq_at hq (rk.mono g2 _ _) rl
  exact hr p p2 kv lv H2 Q (w2.fh p _ upd_same) hp2 e1 e2 (k G2 H2 _ (g1.trans g2) (w2.lessF (Le.upd fp)) (ResR.fz rfl))
theorem j_neDk {a b : Expr} {fa fb : FE} (hu : X.A.units < cLine) (ha : JE X cm a fa) (hb : JE X cm b fb) (hm : behindInMarks .NotEq b = false := by first | exact nomark _ | rfl) : JE X cm (.Compare a [.NotEq] [b] pos) (fDeq true fa fb) := by
  obtain ⟨ta, a1, a2⟩ := ha.ex
  obtain ⟨tb, b1, b2⟩ := hb.ex
  exact .of ⟨_, pe_cmpR (op_ne_dictA hu) a1 b1 hm, deq_ok a2 b2 fun a b ks ls H Q h1 h2 h3 h4 q => ⟨a, b, ks, ls, rfl, rfl, h1, h2, h3, h4, q⟩⟩
theorem j_eqDk {a b : Expr} {fa fb : FE} (hu : X.A.units < cLine) (ha : JE X cm a fa) (hb : JE X cm b fb) (hm : behindInMarks .Eq b = false := by first | exact nomark _ | rfl) : JE X cm (.Compare a [.Eq] [b] pos) (fDeq false fa fb) := by
  obtain ⟨ta, a1, a2⟩ := ha.ex
  obtain ⟨tb, b1, b2⟩ := hb.ex
  exact .of ⟨_, pe_cmpR (op_eq_dictA hu) a1 b1 hm, deq_ok a2 b2 fun a b ks ls H Q h1 h2 h3 h4 q => ⟨a, b, ks, ls, rfl, rfl, h1, h2, h3, h4, q⟩⟩
theorem jt_neDk {a b : Expr} {fa fb : FE} (hu : X.A.units < cLine) (ha : JE X cm a fa) (hb : JE X cm b fb) (hm : behindInMarks .NotEq b = false := by first | exact nomark _ | rfl) : JT X cm (.Compare a [.NotEq] [b] pos) (tEb (fDeq true fa fb)) := by
  obtain ⟨ta, a1, a2⟩ := ha.ex
  obtain ⟨tb, b1, b2⟩ := hb.ex
  exact .of ⟨_, pt_cmpR (op_ne_dictA hu) a1 b1 hm, (deq_ok a2 b2 fun a b ks ls H Q h1 h2 h3 h4 q => ⟨a, b, ks, ls, rfl, rfl, h1, h2, h3, h4, q⟩).t⟩
/-! methods of what is new, as statements: f(..).append(x) -/
def sMuE (g : Mu) (fo : FE) (fa : AF) : FS := fun e => (fo e).bind fun o => if o.1.own = true then (fa (e.st o.2)).bind fun r => (g o.1.d r.1).map fun q => (.nx, e.st r.2) else none
theorem js_muE {T id : String} {m : Str} {r : V → List V → Hp → VK → Prop} {g : Mu} {a e : Expr} {es : List Expr} {fo : FE} {fa : AF} {p2 p3 : Pos} (pa : PlainAttrs T) (slot : Slot T m id) (hty : typeOf (.builtin id) = pure (.type "method_descriptor")) (hm : MtR X id r) (hg : MOk cm T r g) (ho : JE X cm a fo) (ha : JK X cm (e :: es) fa)
    (hbase : attributeBase a m X.env (eval a X.env) = eval a X.env := by rfl)
    (hfew : ((backTo p3 (starEach (e :: es) X.env)).all (fun x => !x.1) && (backToKw p3 (keywordEach [] X.env)).all (fun x => x.1.isSome) && decide ((e :: es).length + ([] : List Keyword).length + (if ([] : List Keyword).isEmpty then 0 else 1) < 30)) = true := by rfl)
    (hline : (p2.endLine == p3.line) = true := by rfl) (hs : starEach (e :: es) X.env = (false, eval e X.env) :: starEach es X.env := by rfl) (hplain : (backTo p3 (starEach es X.env)).any (·.1) = false := by rfl)
    (hsw : swapsWith (.Call (.Attribute a m p2) (e :: es) [] p3) none pos.line X.env = pure false := by rfl) : JS X cm (.Expr (.Call (.Attribute a m p2) (e :: es) [] p3) pos) (sMuE g fo fa) := by
  obtain ⟨to, o1, o2⟩ := ho.ex
  obtain ⟨t, p, q⟩ := ha.ex
  refine .of ⟨_, ps_expr (pe_bm pa slot hty hm o1 p hbase hfew hline hs hplain) hsw, fun lk sp G F0 H σ e fl e' x hf0 D k => ?_⟩
  obtain ⟨⟨ro, S1⟩, z1, hf⟩ := Option.bind_eq_some_iff.mp hf0
  clear hf0
  split at hf
  · rename_i ho
    obtain ⟨⟨as, S2⟩, z2, hf⟩ := Option.bind_eq_some_iff.mp hf
    obtain ⟨⟨res, d'⟩, z3, hf⟩ := Option.map_eq_some_iff.mp hf
    cases hf
    have ho : ro.own = true := ho
    obtain ⟨F, l, x, y⟩ := x
    refine o2 lk sp G F H σ e ro S1 x z1 _ fun G1 H1 v g1 w1 r1 => ?_
    unfold ResR at r1
    rw [if_pos ho] at r1
    obtain ⟨p, u, rfl, hp, ob, gp, fp, sp1, nt⟩ := r1
    refine ⟨tyD_ok hp ob (hg.1 _ as res d' z3), ?_⟩
    have w1' := w1.keep hp gp sp1 nt
    have x1 : ER cm lk sp G1 (upd F p u) H1 σ (e.st S1) := x.next g1 (Le.upd fp) w1'
    refine q lk sp G1 (upd F p u) H1 σ _ as S2 x1 z2 _ fun G2 H2 vs g2 w2 r2 => ?_
    obtain ⟨u', v, o3, nt', _, k3⟩ := hg.2 G2 H2 ro.d as d' res u p vs (w2.fh p u upd_same) (ob.mono g2) r2 z3
    have w3 := w2.lessF (Le.upd fp)
    refine k3 _ (k G2 _ σ (g1.trans g2) (SR.next l x y (g1.trans g2) ⟨fun a b c => ?_, fun a b c => ?_, w3.fg, w3.lg, fun s e => ?_, w3.ft⟩))
    · have ha : a ≠ p := fun z => by
        have := w2.fg p u upd_same
        rw [z, this] at c; cases c
      rw [upd_ne ha]; exact w3.gh a b c
    · have ha : a ≠ p := fun z => by rw [z, fp] at c; cases c
      rw [upd_ne ha]; exact w3.fh a b c
    · have hs : sp ≠ p := fun z => by
        have := (w2.sp s e).2.2
        rw [z, upd_same] at this; cases this
      exact ⟨by rw [upd_ne hs]; exact (w3.sp s e).1, (w3.sp s e).2⟩
  · cases hf
end
end Al


set_option Elab.async false
set_option linter.all false
set_option maxRecDepth 100000
/-! return [left.pop(..) for ..] -/
namespace Al
open PySem PySem.Spec PyProof.Rows L2
def popF (i : Nat) (T : Tg) (vs : List Nat) (fa : FE) : En → List D → Option (List D × En)
  | e, [] => some ([], e)
  | e, d :: ds => (tgD T d (e.wipe vs)).bind fun e1 => (fa e1).bind fun r => match r.1.d, e.cs[i]? with
    | .int j, some (.own (.lst xs)) => if -(2 ^ 63) ≤ j ∧ j < 2 ^ 63 then (seqIndex? j xs.length).bind fun k => (xs[k]?).bind fun x => (popF i T vs fa ((e.st r.2).put i (.own (.lst (xs.eraseIdx k)))) ds).map fun q => (x :: q.1, q.2) else none
    | _, _ => none
theorem Reps.erase {cm : CM} {G : Hp} : ∀ {ds : List D} {vs : List V} (k : Nat), Reps cm G ds vs → Reps cm G (ds.eraseIdx k) (vs.eraseIdx k)
  | [], _, _, r => by obtain rfl : _ = [] := r; exact rfl
  | _ :: _, _, 0, ⟨v, t, e, a, b⟩ => by subst e; exact b
  | _ :: _, _, k + 1, ⟨v, t, e, a, b⟩ => by subst e; exact ⟨v, _, rfl, a, Reps.erase k b⟩
def sPop (s : AF) (i : Nat) (T : Tg) (vs : List Nat) (fa : FE) : FS := fun e => (s e).bind fun r => if r.1.length ≤ 10000 ∧ (∀ k ∈ T.slots, k ∈ vs) ∧ i ∉ vs then (popF i T vs fa (e.st r.2) r.1).map fun q => (.rt (nw (.lst q.1)), q.2) else none
theorem js_retPop {X : Cx} {cm : CM} {arg tg iter : Expr} {scope : Scope} {pos pos' p1 p2 p3 : Pos} {s : AF} {T : Tg} {fa : FE} (i : Nat) {x : Str} (own : List (Str × Nat)) (hc : X.calm = true) (hN : X.N.Nodup) (hi : JI X cm tg iter s) (ok : BlkOk X.N X.env.scope scope own) (hg : BlkE X scope fun Y => JG Y tg T)
    (ha : BlkE X scope fun Y => JE Y cm arg fa) (hx : X.N[i]? = some x := by rfl)
    (hv : BlkE X scope fun Y => Vis Y.env.scope x := by intro _ _ _ _ _; first | exact Or.inl rfl | exact Or.inr (Or.inl rfl) | exact Or.inr (Or.inr rfl)) (hd : (x == ("__debug__" : Str)) = false := by decide) (hcd : (x == ("__classdict__" : Str)) = false := by decide)
    (hbase : BlkE X scope fun Y => attributeBase (.Name x p1) "pop" Y.env (eval (.Name x p1) Y.env) = eval (.Name x p1) Y.env := by intro _ _ _ _ _; rfl)
    (hfew : BlkE X scope fun Y => ((backTo p3 (starEach [arg] Y.env)).all (fun x => !x.1) && (backToKw p3 (keywordEach [] Y.env)).all (fun x => x.1.isSome) && decide ([arg].length + ([] : List Keyword).length + (if ([] : List Keyword).isEmpty then 0 else 1) < 30)) = true := by intro _ _ _ _ _; rfl)
    (hline : (p2.endLine == p3.line) = true := by rfl) (hst : BlkE X scope fun Y => starEach [arg] Y.env = (false, eval arg Y.env) :: starEach [] Y.env := by intro _ _ _ _ _; rfl) (hplain : BlkE X scope fun Y => (backTo p3 (starEach [] Y.env)).any (·.1) = false := by intro _ _ _ _ _; rfl)
    (hs : ∀ x, foldedSetIterable iter X.env x = pure x := by intro _; rfl) :
    JS X cm (.Return (some (.ListComp (.Call (.Attribute (.Name x p1) "pop" p2) [arg] [] p3) [⟨tg, iter, [], 0⟩] scope pos)) pos') (sPop s i T (own.map (·.2)) fa) := by
  obtain ⟨t, p, q⟩ := hi.ex
  have pel : BlkE X scope fun Y => PE Y (.Call (.Attribute (.Name x p1) "pop" p2) [arg] [] p3) (tBM X.K "list" rPopAt (tVar i) (tCons (tE cm fa) tNil)) := fun s H C cl fp =>
    pe_bm (X := X.blk s H scope (compEnvC scope cl C X.env) fp) PySem.F.plainAttrs_list PySem.F.slot_list_pop PySem.F.type_list_pop mt_popAt (pe_var (i := i) hx (hv s H C cl fp) hd hcd) (pa_cons (ha s H C cl fp) pa_nil (hst s H C cl fp)) (hbase s H C cl fp) (hfew s H C cl fp) hline (hst s H C cl fp) (hplain s H C cl fp)
  refine .of ⟨_, ps_ret (pe_lc (pos := pos) (g := tgT X.K T) (tt := tT cm tYes') hc hN p ok hg (fun _ _ _ _ _ => jts_nil) pel hs), fun lk sp G F0 H σ e fl e' xs hf0 D k => ?_⟩
  obtain ⟨⟨ds, S1⟩, z1, hf⟩ := Option.bind_eq_some_iff.mp hf0
  clear hf0
  split at hf
  · rename_i hcc
    obtain ⟨hz, hvs, hiv⟩ := hcc
    obtain ⟨⟨rs, e9⟩, z2, hf⟩ := Option.map_eq_some_iff.mp hf
    cases hf
    obtain ⟨F, l, xe, y⟩ := xs
    refine q lk sp G F H σ e ds S1 xe z1 _ fun G' H' J g' w' fo Dl hD => ?_
    have hz : ds.length ≤ 10000 := hz
    refine ⟨fun j m H1 => ∃ G1 F1 e1 acc, Le G' G1 ∧ Le F0 F1 ∧ ER cm lk sp G1 F1 H1 σ e1 ∧ Out F1 F0 σ e1.cs ∧ G1 Dl = none ∧ F1 Dl = none ∧ (∀ s, e1.S = some s → Dl ≠ sp) ∧ j ≤ ds.length ∧ m = ds.length - j ∧ acc.length ≤ j ∧
      ∃ us, H1 Dl = some (.lst us) ∧ Reps cm G1 acc us ∧ ∃ more, popF i T (own.map (·.2)) fa e1 (ds.drop j) = some (more, e9) ∧ rs = acc ++ more, ?_, ?_⟩
    · have x0 : ER cm lk sp G' F (upd H' Dl (.lst [])) σ (e.st S1) := xe.next g' Le.rfl (w'.new hD)
      exact ⟨_, G', F, e.st S1, [], Le.rfl, l, x0, y, w'.gn hD, w'.fn hD, w'.spn hD, Nat.zero_le _, rfl, Nat.zero_le _, [], upd_same, rfl, rs, by rw [List.drop_zero]; exact z2, rfl⟩
    · rintro j m H1 ⟨G1, F1, e1, acc, g1, l1, x1, y1, gD, fD, sD, hj, rfl, hacc, us, hDl, ra, more, hm, hrs⟩
      by_cases hlt : j < ds.length
      · obtain ⟨go, yl⟩ := (fo G1 F1 H1 e1.S j g1 x1.w).1 ds[j] (List.getElem?_eq_getElem hlt)
        rw [List.drop_eq_getElem_cons hlt] at hm
        unfold popF at hm
        obtain ⟨e2, t1, hm⟩ := Option.bind_eq_some_iff.mp hm
        obtain ⟨⟨r, Sr⟩, t2, hm⟩ := Option.bind_eq_some_iff.mp hm
        have wk := x1.w.keep hDl gD sD (fun xs z => by cases z)
        have yl' := fun x H2 y => ((fo G1 (upd F1 Dl (.lst us)) H1 e1.S j g1 wk).1 ds[j] (List.getElem?_eq_getElem hlt)).2 x H2 y
        refine .inr ⟨go, fun H1 => ∃ G1 F1 e1 acc, Le G' G1 ∧ Le F0 F1 ∧ ER cm lk sp G1 F1 H1 σ e1 ∧ Out F1 F0 σ e1.cs ∧ G1 Dl = none ∧ F1 Dl = none ∧ (∀ s, e1.S = some s → Dl ≠ sp) ∧ acc.length ≤ j + 1 ∧
            ∃ us, H1 Dl = some (.lst us) ∧ Reps cm G1 acc us ∧ ∃ more, popF i T (own.map (·.2)) fa e1 (ds.drop (j + 1)) = some (more, e9) ∧ rs = acc ++ more,
          fun H' ⟨G1, F1, e1, acc, a1, a2, a3, a4, a5, a6, a7, a8, a9⟩ => ⟨_, by omega, G1, F1, e1, acc, a1, a2, a3, a4, a5, a6, a7, hlt, rfl, a8, a9⟩, fun v H2 yy => ?_⟩
        obtain ⟨G2, g2, w2, r2⟩ := yl' v H2 yy
        have fk : Le F1 (upd F1 Dl (.lst us)) := Le.upd fD
        have cw : CellsR cm sp G1 F1 (wipe σ (own.map (·.2))) (e1.wipe (own.map (·.2))).cs := wiped _ x1.c
        have hS : (e1.wipe (own.map (·.2))).S = e1.S := wipe_S _
        have x2 : ER cm lk sp G2 (upd F1 Dl (.lst us)) H2 (wipe σ (own.map (·.2))) (e1.wipe (own.map (·.2))) := ⟨by rw [hS]; exact w2, cw.mono g2 fk, (wipedS _ x1.s).up fk cw, (show Le (e1.wipe (own.map (·.2))).B _ by rw [wipe_B]; exact x1.b.trans g2)⟩
        refine tg_exp x2 r2 t1 hvs fun σ3 x3 wp => ⟨wp, ?_⟩
        refine ⟨lk, sp, G2, upd F1 Dl (.lst us), e2, true, e2.S, x3, rfl, fun G3 H3 g3 w3 => ?_⟩
        show (if true = true then _ else _)
        rw [if_pos rfl]
        -- left
        cases hrd : r.d with
        | int a =>
          simp only [hrd] at hm
          split at hm
          · rename_i a' xs ha' hci
            cases ha'
            split at hm
            · rename_i hb
              obtain ⟨kx, t3, hm⟩ := Option.bind_eq_some_iff.mp hm
              obtain ⟨dx, t4, hm⟩ := Option.bind_eq_some_iff.mp hm
              obtain ⟨⟨more', e8⟩, t5, hm⟩ := Option.map_eq_some_iff.mp hm
              cases hm
              obtain ⟨o, hs1, p, u, rfl, hp, ws, rfl, rws⟩ := x1.c i _ hci
              have hpD : p ≠ Dl := fun z => by rw [z, fD] at hp; cases hp
              have hs3 : σ3[i]? = some (some (.ref p)) := by
                have hlen : i < σ.length := (List.getElem?_eq_some_iff.mp hs1).1
                have e1 := wipe_at (σ := σ) (vs := own.map (·.2)) hlen
                rw [if_neg hiv, hs1] at e1
                have hl3 : σ3.length = σ.length := by
                  have := congrArg List.length wp
                  rwa [wipe_length, wipe_length] at this
                have e3 := wipe_at (σ := σ3) (vs := own.map (·.2)) (by omega : i < σ3.length)
                rw [if_neg hiv] at e3
                rw [← e3, wp, e1]
              refine ⟨.ref p, hs3, .inl ⟨rfl, ws, SqL.of (w3.fh p _ (fk _ _ hp))⟩, ?_⟩
              refine ⟨lk, sp, G3, upd F1 Dl (.lst us), e2.st e2.S, r, Sr, x3.next g3 Le.rfl w3, t2, fun G4 H4 v4 g4 w4 r4 => ?_⟩
              rw [r4.int hrd]
              have gg : Le G1 G4 := ((g2.trans g3).trans g4)
              have rws4 : Reps cm G4 xs ws := rws.mono gg _ _
              obtain ⟨yv, hy1, hy2⟩ := rws4.get t4
              refine ⟨p, ws, a, kx, yv, rfl, rfl, w4.fh p _ (fk _ _ hp), hb.1, hb.2, by rw [rws4.len]; exact t3, hy1, ?_⟩
              have w4' := w4.lessF fk
              have x4 : ER cm lk sp G4 F1 H4 σ (e1.st Sr) := x1.next gg Le.rfl w4'
              have x5 := x4.own (d' := .lst (xs.eraseIdx kx)) (u' := .lst (ws.eraseIdx kx)) hci hs1 hp ⟨_, rfl, rws4.erase kx⟩ (fun xs z => by cases z)
              have hD4 : H4 Dl = some (.lst us) := w4.fh Dl _ upd_same
              have gD4 : G4 Dl = none := w4.fg Dl _ upd_same
              have sD4 : ∀ s, Sr = some s → Dl ≠ sp := fun s q z => by
                have := (w4.sp s q).2.2
                rw [← z, upd_same] at this; cases this
              have f0 : F0 p = none := y1 i _ _ p hci hs1 rfl
              have fD5 : upd F1 p (.lst (ws.eraseIdx kx)) Dl = none := by rw [upd_ne hpD.symm]; exact fD
              have w5 := x5.w
              have w6 : WR lk sp G4 (upd F1 p (.lst (ws.eraseIdx kx))) (upd (upd H4 p (.lst (ws.eraseIdx kx))) Dl (.lst (us ++ [yv]))) Sr := by
                have ne : ∀ {q : Addr} {u : HO}, G4 q = some u → q ≠ Dl := fun {q u} h z => by rw [z, gD4] at h; cases h
                have nf : ∀ {q : Addr} {u : HO}, upd F1 p (.lst (ws.eraseIdx kx)) q = some u → q ≠ Dl := fun {q u} h z => by rw [z, fD5] at h; cases h
                exact ⟨fun q u h => by rw [upd_ne (ne h)]; exact w5.gh q u h, fun q u h => by rw [upd_ne (nf h)]; exact w5.fh q u h, w5.fg, w5.lg, fun s h => ⟨by rw [upd_ne (sD4 s h).symm]; exact (w5.sp s h).1, (w5.sp s h).2⟩, w5.ft⟩
              refine ⟨us, by rw [upd_ne hpD.symm]; exact hD4, Nat.lt_of_lt_of_le (by rw [ra.len]; omega : us.length < 10001) (by decide), G4, upd F1 p (.lst (ws.eraseIdx kx)), _, acc ++ [dx], g1.trans gg, fun q u h => ?_, ⟨w6, x5.c, x5.s, x5.b⟩, ?_, gD4, fD5, sD4, by rw [List.length_append]; simp; omega, us ++ [yv], upd_same, (ra.mono gg _ _).app (Reps.one hy2), more', t5, by rw [List.append_assoc]; exact hrs⟩
              · have hq : q ≠ p := fun z => by rw [z, f0] at h; cases h
                rw [upd_ne hq]; exact l1 q u h
              · -- out of F0
                intro j2 c2 o2 q2 a2 b2 f2
                by_cases hj2 : j2 = i
                · subst hj2
                  obtain ⟨rfl, _⟩ := putn a2
                  exact y1 _ _ _ q2 hci b2 f2
                · have a2' := putc hj2 a2
                  exact y1 j2 c2 o2 q2 a2' b2 (Ft.upd (fun f' => x1.s j2 i c2 _ o2 _ p hj2 a2' hci b2 hs1 f' rfl) f2)
            · cases hm
          · cases hm
        | _ => simp only [hrd] at hm; cases hm
      · have e0 : j = ds.length := by omega
        subst e0
        rw [List.drop_eq_nil_of_le (Nat.le_refl _)] at hm
        cases hm
        rw [List.append_nil] at hrs
        subst hrs
        exact .inl ⟨(fo G1 F1 H1 _ _ g1 x1.w).2 (Nat.le_refl _), k G1 H1 _ (g'.trans g1) (x1.w.lessF l1) (ResR.nw hDl ⟨us, rfl, ra⟩ gD (l1.none fD) sD)⟩
  · cases hf
end Al


set_option Elab.async false
set_option linter.all false
set_option maxRecDepth 100000
/-! The script: a list that the law is handed. -/
namespace Al
open PySem PySem.Spec PyProof.Rows L2
theorem raw_sq {K : PySem.W.Frag} {lk : Addr → Option Obj} {sp : Addr} {B G F H : Hp} {S : Option Spr} {a : Addr} {xs : List V} (h : SqL K B a xs) (g : Le B G) (w : WR lk sp G F H S) : SqL K H a xs := by
  rcases h with (h | ⟨o, h⟩) | h
  · exact .inl (.inl (w.pl (g _ _ h) fun z => z))
  · exact .inl (.inr ⟨o, w.pl (g _ _ h) fun z => z⟩)
  · exact .inr h
open Classical in
noncomputable def isRaw (a : Addr) (B : Hp) (e : En) (i : Nat) : Bool := if e.cs[i]? = some (.raw (.ref a)) ∧ e.B = B then true else false
theorem isRaw_inv {a : Addr} {B : Hp} {e : En} {i : Nat} (h : isRaw a B e i = true) : e.cs[i]? = some (.raw (.ref a)) ∧ e.B = B := by
  unfold isRaw at h
  split at h
  · assumption
  · cases h
noncomputable def fRawLen (a : Addr) (B : Hp) (ns : List Int) (i : Nat) : FE := fun e => if isRaw a B e i = true then some (fz (.int ns.length), e.S) else none
noncomputable def fRawIx (a : Addr) (B : Hp) (ns : List Int) (i : Nat) (fk : FE) : FE := fun e => if isRaw a B e i = true then (fk e).bind fun k => match k.1.d with
  | .int j => (atI ns j).map fun n => (fz (.int n), k.2)
  | _ => none else none
noncomputable def fRawTake (a : Addr) (B : Hp) (ns : List Int) (i : Nat) (n : Int) : FE := fun e => if isRaw a B e i = true then some (nw (.lst (cutD (ns.map D.int) none (some n))), e.S) else none
theorem reps_ints {cm : CM} {G : Hp} : ∀ ns : List Int, Reps cm G (ns.map D.int) (ns.map V.int)
  | [] => rfl
  | n :: ns => ⟨_, _, rfl, rfl, reps_ints ns⟩
section
variable {X : Cx} {cm : CM} {a : Addr} {B : Hp} {ns : List Int} {pos p p1 p2 p3 : Pos} {x : Str} {ek : Expr}
theorem j_rawLen (i : Nat) (hS : SqL X.K B a (ns.map V.int)) (hm : X.mg "len" = none) (hN : X.N[i]? = some x := by rfl) (hv : Vis X.env.scope x := by first | exact Or.inl rfl | exact Or.inr (Or.inl rfl) | exact Or.inr (Or.inr rfl)) (hd : (x == ("__debug__" : Str)) = false := by decide)
    (hcd : (x == ("__classdict__" : Str)) = false := by decide) (hg : Gl X "len" := by rfl) (he : starEach [.Name x p1] X.env = (false, eval (.Name x p1) X.env) :: starEach [] X.env := by rfl) (hpl : (backTo pos (starEach [] X.env)).any (·.1) = false := by rfl) :
    JE X cm (.Call (.Name "len" p) [.Name x p1] [] pos) (fRawLen a B ns i) := .of ⟨_, pe_callB call_len_seq hg hm (by decide +kernel) (pa_cons (pe_var hN hv hd hcd) pa_nil he) (by decide) (by decide) he hpl, fun lk sp G F H σ e r S' x hf Q k => by
  unfold fRawLen at hf
  split at hf
  · rename_i h
    cases hf
    obtain ⟨h1, h2⟩ := isRaw_inv h
    obtain ⟨o, h3, h4⟩ := x.c i _ h1
    obtain rfl : o = some (.ref a) := h4
    have hb := x.b
    rw [h2] at hb
    refine ⟨.ref a, h3, a, ns.map V.int, rfl, .inl (raw_sq hS hb x.w), ?_⟩
    rw [List.length_map]
    exact k G H _ Le.rfl x.w (ResR.fz rfl)
  · cases hf⟩
theorem j_rawIx (i : Nat) {fk : FE} (hS : SqL X.K B a (ns.map V.int)) (hk : JE X cm ek fk) (hN : X.N[i]? = some x := by rfl) (hv : Vis X.env.scope x := by first | exact Or.inl rfl | exact Or.inr (Or.inl rfl) | exact Or.inr (Or.inr rfl)) (hd : (x == ("__debug__" : Str)) = false := by decide)
    (hcd : (x == ("__classdict__" : Str)) = false := by decide) (hs : PlainIx ek := by exact fun _ _ => rfl) : JE X cm (.Subscript (.Name x p1) ek pos) (fRawIx a B ns i fk) := by
  obtain ⟨t, q1, q⟩ := hk.ex
  refine .of ⟨_, pe_ix ix_list (pe_var hN hv hd hcd) q1 hs, fun lk sp G F H σ e r S' x hf Q k => ?_⟩
  unfold fRawIx at hf
  split at hf
  · rename_i h
    obtain ⟨⟨rk, S1⟩, z1, hf2⟩ := Option.bind_eq_some_iff.mp hf
    clear hf
    obtain ⟨h1, h2⟩ := isRaw_inv h
    obtain ⟨o, h3, h4⟩ := x.c i _ h1
    obtain rfl : o = some (.ref a) := h4
    refine ⟨.ref a, h3, ?_⟩
    refine q lk sp G F H σ e rk S1 x z1 _ fun G1 H1 v g1 w1 r1 => ?_
    cases hrd : rk.d with
    | int j =>
      simp only [hrd] at hf2
      obtain ⟨n, z2, hf2⟩ := Option.map_eq_some_iff.mp hf2
      cases hf2
      rw [r1.int hrd]
      have hb := x.b
      rw [h2] at hb
      have hat : atI (ns.map V.int) j = some (V.int n) := by
        unfold atI at z2 ⊢
        rw [List.length_map]
        obtain ⟨m, e1, e2⟩ := Option.bind_eq_some_iff.mp z2
        rw [e1]
        show (ns.map V.int)[m]? = _
        rw [List.getElem?_map, e2]
        rfl
      exact ⟨a, ns.map V.int, j, .int n, rfl, rfl, raw_sq hS (hb.trans g1) w1, hat, k G1 H1 _ g1 w1 (ResR.fz rfl)⟩
    | _ => simp only [hrd] at hf2; cases hf2
  · cases hf
theorem j_rawTake (i : Nat) {n : Int} {kk} {p4 : Pos} (hS : SqL X.K B a (ns.map V.int)) (hN : X.N[i]? = some x := by rfl) (hv : Vis X.env.scope x := by first | exact Or.inl rfl | exact Or.inr (Or.inl rfl) | exact Or.inr (Or.inr rfl)) (hd : (x == ("__debug__" : Str)) = false := by decide)
    (hcd : (x == ("__classdict__" : Str)) = false := by decide) : JE X cm (.Subscript (.Name x p1) (.Slice none (some (.Constant (.int n) kk p4)) none p2) pos) (fRawTake a B ns i n) := by
  refine .of ⟨_, pe_slice sl_list (pe_var hN hv hd hcd) po_none (po_some pe_int), fun lk sp G F H σ e r S' x hf Q k => ?_⟩
  unfold fRawTake at hf
  split at hf
  · rename_i h
    cases hf
    obtain ⟨h1, h2⟩ := isRaw_inv h
    obtain ⟨o, h3, h4⟩ := x.c i _ h1
    obtain rfl : o = some (.ref a) := h4
    have hb := x.b
    rw [h2] at hb
    refine ⟨.ref a, h3, n, rfl, a, ns.map V.int, rfl, raw_sq hS hb x.w, fun b hb => ?_⟩
    exact k G _ _ Le.rfl (x.w.new hb) (ResR.nw upd_same ⟨_, rfl, (reps_ints ns).cut _ _⟩ (x.w.gn hb) (x.w.fn hb) (x.w.spn hb))
  · cases hf
end
/-! ### a def that is handed the script -/
abbrev FnR := List Int → List D → Option Rs
def spR (cm : CM) (K : PySem.W.Frag) (Φ : FnR) (n : Nat) : Sp := fun vs H Q _ => ∃ lk sp B G F a ns ds us r, WR lk sp G F H none ∧ Le B G ∧ SqL K B a (ns.map V.int) ∧ vs = .ref a :: us ∧ Reps cm G ds us ∧ Φ ns ds = some r ∧ ds.length + 1 = n ∧
  ∀ G' H' v, Le G G' → WR lk sp G' F H' none → ResR cm sp none G' F H' v r → Q v H'
open Classical in
noncomputable def runR (m : Nat) (g : Addr → Hp → List Int → FS) : FnR := fun ns ds => if ∀ a B, runB m (g a B ns) a B ds = runB m (g 0 (fun _ => none) ns) 0 (fun _ => none) ds then runB m (g 0 (fun _ => none) ns) 0 (fun _ => none) ds else none
where runB (m : Nat) (f : FS) (a : Addr) (B : Hp) (ds : List D) : Option Rs := (f ⟨none, startI a m ds, B⟩).bind fun r => match r.1 with
  | .rt x => some x
  | .nx => some (fz .non)
  | _ => none
section
variable {P : Program} {w : World} {K : PySem.W.Frag} {mg : Str → Option Value} {base : Heap} {cm : CM}
theorem startI_own {F : Hp} {x : Addr} {m : Nat} {ds : List D} (i : Nat) (c : Cell) (o : Option V) (p : Addr) (z : (startI x m ds)[i]? = some c) (f : Ft F o c p) : False := by
  unfold startI at z
  cases i with
  | zero =>
    simp only [List.getElem?_cons_zero, Option.some.injEq] at z
    subst z; exact f
  | succ i =>
    rw [List.getElem?_cons_succ] at z
    by_cases hi : i < ds.length
    · rw [List.getElem?_append_left (by rw [List.length_map]; exact hi), List.getElem?_map, List.getElem?_eq_getElem hi] at z
      cases z; exact f
    · rw [List.getElem?_append_right (by rw [List.length_map]; omega), List.getElem?_replicate] at z
      split at z
      · cases z; exact f
      · cases z
theorem def_okR {x qual : Str} {st : Stmt} {f : Addr} {fd : FuncData} {N ps : List Str} {k : Nat} {g : Addr → Hp → List Int → FS} (F : Fun K x qual st f fd) (S : FnScope N ps (defScope st))
    (hb : ∀ (a : Addr) (B : Hp) (ns : List Int), SqL K B a (ns.map V.int) → ∀ (q : Str) (f : Addr) (cdv : Value) (A : Around) (outer : List Env) (s : Shared) (H : Hp) (E : XK), Room k (A.deeper (envOfC q (defScope st) s.heap.objs.size f cdv)) → JB (cxOf CX0 P w K mg base N q (defScope st) f cdv A outer s H E).nox cm (defBody st) (g a B ns)) :
    FnOk P w K mg base CX0 (k + 1) f fd ps (spR cm K (runR N.length g) ps.length) := by
  refine F.ok S (fun vs H Q E h => ?_) fun cdv A outer s H vs Q E hr h => ?_
  · obtain ⟨lk, sp, B, G, F, a, ns, ds, us, r, _, _, _, rfl, h2, _, h4, _⟩ := h
    rw [List.length_cons, h2.len, h4]
  · obtain ⟨lk, sp, B, G, F, a, ns, ds, us, r, h1, hB, hS, rfl, h2, h3, h4, h5⟩ := h
    obtain ⟨t, p, q⟩ := (hb a B ns hS qual f cdv A outer s H E hr).ex
    refine ⟨t, p, ?_⟩
    unfold runR at h3
    split at h3
    · rename_i hall
      rw [← hall a B] at h3
      unfold runR.runB at h3
      obtain ⟨⟨fl, e'⟩, z1, h3⟩ := Option.bind_eq_some_iff.mp h3
      refine q lk sp G F H (L2.start N (.ref a :: us)) _ fl e' ⟨F, Le.rfl, ⟨h1, cells_startI h2, fun i j c c' o o' p _ z _ _ _ f _ => startI_own i c o p z f, hB⟩, fun i c o p z _ f => (startI_own i c o p z f).elim⟩ z1 _ ?_
      cases fl with
      | rt x => cases h3; exact fun G' H' v g' w' r' => h5 G' H' v g' w'.noS (by
          unfold ResR at r' ⊢
          by_cases o : r.own = true
          · rw [if_pos o] at r' ⊢
            obtain ⟨p, u, a, b, c, d, e, k⟩ := r'
            exact ⟨p, u, a, b, c, d, e, (fun s z => nomatch z), k.2⟩
          · rw [if_neg o] at r' ⊢; exact r')
      | nx => cases h3; exact fun G' H' σ' g' ⟨F', l', x', _⟩ => h5 G' H' .non g' ((x'.w.lessF l').noS) (ResR.fz rfl)
      | bk => cases h3
      | ct => cases h3
    · cases h3
end
noncomputable def fClR (a : Addr) (B : Hp) (ns : List Int) (i : Nat) (Φ : FnR) (n : Nat) (fa : AF) : FE := fun e => if isRaw a B e i = true then (fa e).bind fun r => if r.1.length + 1 = n then (Φ ns r.1).map fun q => (q, r.2) else none else none
theorem j_clR {X : Cx} {cm : CM} {a : Addr} {B : Hp} {ns : List Int} {pos p p1 : Pos} {x f : Str} {es : List Expr} {k j n : Nat} (i : Nat) {Φ : FnR} {fa : AF} (hS : SqL X.K B a (ns.map V.int)) (c : Cal X.prog X.w X.K X.mg X.base k f (spR cm X.K Φ n)) (hr : Room j X.A) (hk : k ≤ j) (ha : JK X cm es fa)
    (hN : X.N[i]? = some x := by rfl) (hv : Vis X.env.scope x := by first | exact Or.inl rfl | exact Or.inr (Or.inl rfl) | exact Or.inr (Or.inr rfl)) (hd : (x == ("__debug__" : Str)) = false := by decide)
    (hcd : (x == ("__classdict__" : Str)) = false := by decide) (hg : Gl X f := by rfl) (hdb : (f == ("__debug__" : Str)) = false := by decide)
    (he : starEach (.Name x p1 :: es) X.env = (false, eval (.Name x p1) X.env) :: starEach es X.env := by rfl) (hpl : (backTo pos (starEach es X.env)).any (·.1) = false := by rfl) : JE X cm (.Call (.Name f p) (.Name x p1 :: es) [] pos) (fClR a B ns i Φ n fa) := by
  obtain ⟨t, p1, q⟩ := ha.ex
  refine .of ⟨_, pe_c c hr hk hg (pa_cons (pe_var hN hv hd hcd) p1 he) hdb he hpl, fun lk sp G F H σ e r S' x hf Q k => ?_⟩
  unfold fClR at hf
  split at hf
  · rename_i h
    obtain ⟨⟨ds, S1⟩, z1, hf2⟩ := Option.bind_eq_some_iff.mp hf
    clear hf
    split at hf2
    · rename_i hl
      obtain ⟨r', z2, hf2⟩ := Option.map_eq_some_iff.mp hf2
      cases hf2
      obtain ⟨h1, h2⟩ := isRaw_inv h
      obtain ⟨o, h3, h4⟩ := x.c i _ h1
      obtain rfl : o = some (.ref a) := h4
      have hb := x.b
      rw [h2] at hb
      refine ⟨.ref a, h3, ?_⟩
      refine q lk sp G F H σ e ds S1 x z1 _ fun G1 H1 vs g1 w1 r1 => ?_
      show spR cm X.K Φ n (V.ref a :: vs ++ []) H1 Q E0
      rw [List.append_nil]
      exact ⟨lk, sp, B, G1, asideF F sp S1, a, ns, ds, vs, r, aside w1, hb.trans g1, hS, rfl, r1, z2, hl, fun G2 H2 v g2 w2 r2 => k G2 H2 v (g1.trans g2) (unaside w1 w2) (unasideR w1 r2)⟩
    · cases hf2
  · cases hf
/-! ### the law -/
def spL (K : PySem.W.Frag) : Sp := fun vs H Q _ => ∃ (a : Addr) (ns : List Int), vs = [.ref a] ∧ SqL K H a (ns.map V.int) ∧ ns.length ≤ 63 ∧ (∀ b, H b = none ∨ ∃ o xs, H b = some (.frz o (.lst xs))) ∧ ∀ H', Q (.bl true) H'
theorem def_okL {P : Program} {w : World} {K : PySem.W.Frag} {mg : Str → Option Value} {base : Heap} {cm : CM} {x qual : Str} {st : Stmt} {f : Addr} {fd : FuncData} {N : List Str} {p1 : Str} {k : Nat} {g : Addr → Hp → List Int → FS} (F : Fun K x qual st f fd) (S : FnScope N [p1] (defScope st))
    (hb : ∀ (a : Addr) (B : Hp) (ns : List Int), SqL K B a (ns.map V.int) → ∀ (q : Str) (f : Addr) (cdv : Value) (A : Around) (outer : List Env) (s : Shared) (H : Hp) (E : XK), Room k (A.deeper (envOfC q (defScope st) s.heap.objs.size f cdv)) → JB (cxOf CX0 P w K mg base N q (defScope st) f cdv A outer s H E).nox cm (defBody st) (g a B ns))
    (ht : ∀ (a : Addr) (B : Hp) (ns : List Int), ns.length ≤ 63 → ∃ e', g a B ns ⟨none, startI a N.length [], B⟩ = some (.rt (fz (.bl true)), e')) : FnOk P w K mg base CX0 (k + 1) f fd [p1] (spL K) := by
  refine F.ok S (fun vs H Q E h => ?_) fun cdv A outer s H vs Q E hr h => ?_
  · obtain ⟨a, ns, rfl, _⟩ := h; rfl
  · obtain ⟨a, ns, rfl, hS, hl, hO, k⟩ := h
    obtain ⟨t, p, q⟩ := (hb a H ns hS qual f cdv A outer s H E hr).ex
    refine ⟨t, p, ?_⟩
    obtain ⟨e', z1⟩ := ht a H ns hl
    have w0 : WR (fun _ => none) 0 H (fun _ => none) H none := ⟨fun p u e => e, (fun p u e => by cases e), (fun p u e => by cases e), (fun p o e => by cases e), (fun s e => by cases e), (fun p xs e => by cases e)⟩
    refine q (fun _ => none) 0 H (fun _ => none) H (L2.start N [.ref a]) _ _ e' ⟨fun _ => none, Le.rfl, ⟨w0, cells_startI (ds := []) (us := []) rfl, fun i j c c' o o' p _ z _ _ _ f _ => startI_own i c o p z f, Le.rfl⟩, fun i c o p z _ f => (startI_own i c o p z f).elim⟩ z1 _ ?_
    intro G' H' v _ _ r
    cases (show v = V.bl true from r)
    exact k H'
end Al


set_option Elab.async false
set_option linter.all false
set_option maxRecDepth 100000
/-! tuple(x); zip of tuples; truth of an own dict; self's fields, some frozen ahead. -/
namespace Al
open PySem PySem.Spec PyProof.Rows L2 RZ
section
variable {X : Cx} {cm : CM} {a b : Expr} {pos p : Pos} {elts : List Expr} {kk : Nat} {tpos : Pos}
def bTup : Fb
  | [.lst ds] => some (fz (.tup ds))
  | [.tup ds] => some (fz (.tup ds))
  | _ => none
theorem jc_tup : JC X cm (.type "tuple") bTup := ⟨_, call_tuple_of, fun lk sp G F H S ds vs res w rr hg Q q => by
  unfold bTup at hg
  split at hg
  · cases hg
    obtain ⟨v, rfl, r⟩ := rr.one
    obtain ⟨p, us, rfl, hp, r2⟩ := r.lst w
    refine ⟨p, us, rfl, .inl ⟨SqL.of hp, fun b hb => ?_⟩⟩
    have gn := w.gn hb
    exact q (upd G b (.tup us)) _ _ (Le.upd gn) ((w.new hb).still upd_same gn (w.fn hb) (w.spn hb)) (ResR.fz (ObjR.rep (d := .tup _) upd_same ⟨us, rfl, r2.mono (Le.upd gn)⟩))
  · cases hg
    obtain ⟨v, rfl, r⟩ := rr.one
    rcases r with r | ⟨p, u, rfl, hp, us, rfl, r2⟩
    · obtain ⟨p, u, rfl, hp, us, rfl, r2⟩ := r
      exact ⟨p, us, rfl, .inr ⟨SqT.of (w.pl hp fun z => z), q G H _ Le.rfl w (ResR.fz ⟨p, _, rfl, hp, us, rfl, r2⟩)⟩⟩
    · exact absurd hp (w.ft p us)
  · cases hg⟩
def iZpA (fa : AF) : AF := fun e => (fa e).bind fun r => match r.1 with
  | [.lst ds, .lst es] => some (zipD ds es, r.2)
  | [.tup ds, .tup es] => some (zipD ds es, r.2)
  | _ => none
theorem foll_zipT {K : PySem.W.Frag} {lk : Addr → Option Obj} {sp q q2 : Addr} {G : Hp} {vs ws : List V} {ds es : List D} (hp : G q = some (.tup vs)) (r : Reps cm G ds vs) (hp2 : G q2 = some (.tup ws)) (r2 : Reps cm G es ws) : Foll cm lk sp G (zipD ds es) (ItzT K q q2) := fun G1 F1 H1 S1 i g w => by
  have hq : SqT K H1 q vs := SqT.of (w.pl (g _ _ hp) fun z => z)
  have hq2 : SqT K H1 q2 ws := SqT.of (w.pl (g _ _ hp2) fun z => z)
  have hl : (zipD ds es).length = min ds.length es.length := by unfold zipD; rw [List.length_map, List.length_zip]
  refine ⟨fun d hd => ?_, fun hi => ⟨vs, ws, hq, hq2, by rw [r.len, r2.len]; omega⟩⟩
  unfold zipD at hd
  rw [List.getElem?_map] at hd
  obtain ⟨⟨x1, x2⟩, h1, rfl⟩ := Option.map_eq_some_iff.mp hd
  rw [List.getElem?_zip_eq_some] at h1
  obtain ⟨v, h2, h3⟩ := r.get h1.1
  obtain ⟨v2, h4, h5⟩ := r2.get h1.2
  refine ⟨⟨vs, ws, v, v2, hq, hq2, h2, h4⟩, fun y H2 yl => ?_⟩
  obtain ⟨T, x', y', rfl, hT, rfl, hx, hy⟩ := yl
  have := hx vs hq
  rw [h2] at this; cases this
  have := hy ws hq2
  rw [h4] at this; cases this
  have gn := w.gn hT
  exact ⟨upd G1 T (.tup [v, v2]), Le.upd gn, (w.new hT).still upd_same gn (w.fn hT) (w.spn hT), ObjR.rep (d := .tup _) upd_same ⟨_, rfl, _, _, rfl, (h3.mono g _ _).mono (Le.upd gn) _ _, _, _, rfl, (h5.mono g _ _).mono (Le.upd gn) _ _, rfl⟩⟩
theorem ji_zipA {fa : AF} (hm : X.mg "zip" = none) (ha : JK X cm [a, b] fa) (hg : Gl X "zip" := by rfl) (hs : starEach [a, b] X.env = (false, eval a X.env) :: starEach [b] X.env := by rfl) (hpl : (backTo pos (starEach [b] X.env)).any (·.1) = false := by rfl) :
    JI X cm (.Tuple elts kk tpos) (.Call (.Name "zip" p) [a, b] [] pos) (iZpA fa) := by
  obtain ⟨t, q1, q⟩ := ha.ex
  refine .of ⟨_, pi_zipA hg hm q1 hs hpl, fun lk sp G F H σ e ds S' x hf R k => ?_⟩
  obtain ⟨⟨ds1, S1⟩, z1, hf⟩ := Option.bind_eq_some_iff.mp hf
  refine q lk sp G F H σ e ds1 S1 x z1 _ fun G1 H1 vs g1 w1 r1 => ?_
  split at hf
  · rename_i ds2 es2 he
    cases hf
    have he : ds1 = _ := he
    subst he
    obtain ⟨v, _, rfl, ⟨q, u, rfl, hq, ws, rfl, rr⟩, v2, _, rfl, ⟨q2, u2, rfl, hq2, ws2, rfl, rr2⟩, rfl⟩ := r1
    exact ⟨q, q2, ws, ws2, rfl, .inl ⟨SqL.of (w1.pl hq fun z => z), SqL.of (w1.pl hq2 fun z => z), k G1 H1 _ g1 w1 (foll_zip hq rr hq2 rr2)⟩⟩
  · rename_i ds2 es2 he
    cases hf
    have he : ds1 = _ := he
    subst he
    obtain ⟨v, _, rfl, ⟨q, u, rfl, hq, ws, rfl, rr⟩, v2, _, rfl, ⟨q2, u2, rfl, hq2, ws2, rfl, rr2⟩, rfl⟩ := r1
    exact ⟨q, q2, ws, ws2, rfl, .inr ⟨SqT.of (w1.pl hq fun z => z), SqT.of (w1.pl hq2 fun z => z), k G1 H1 _ g1 w1 (foll_zipT hq rr hq2 rr2)⟩⟩
  · cases hf
/-- the truth of an own dict -/
def tTruO (i : Nat) : TF := fun e => match e.cs[i]? with
  | some (.own (.dk ds)) => some (!ds.isEmpty, e.S)
  | _ => none
theorem jt_truO (i : Nat) {x : Str} (hN : X.N[i]? = some x := by rfl) (hv : Vis X.env.scope x := by first | exact Or.inl rfl | exact Or.inr (Or.inl rfl) | exact Or.inr (Or.inr rfl)) (hd : (x == ("__debug__" : Str)) = false := by decide)
    (hcd : (x == ("__classdict__" : Str)) = false := by decide) (he : ∀ whole, isTrue (.Name x pos) X.env whole = (do let v ← whole; standAt (Expr.Name x pos).pos; holding [v] (truthy v)) := by intro _; rfl) : JT X cm (.Name x pos) (tTruO i) := .of
  ⟨_, pt_truth (pe_var hN hv hd hcd) he, fun lk sp G F H σ e b S' x hf Q k => by
    unfold tTruO at hf
    split at hf
    · rename_i ds hc
      cases hf
      obtain ⟨o, h1, p, u, rfl, hp, vs, rfl, r⟩ := x.c i _ hc
      exact ⟨.ref p, h1, !vs.isEmpty, .inr (.inr ⟨vs, x.w.fh p _ hp, rfl⟩), by rw [empty_eq r.len]; exact k G H Le.rfl x.w⟩
    · cases hf⟩
/-- ahead of self's fields: a slot freezes -/
def gFz (i : Nat) (g : FT) : FT := fun e => g (e.still i)
theorem jt0_fz {c : Nat} {as : List Stmt} {g : FT} (i : Nat) (h0 : i ≠ 0 := by decide) (h : JT0 X cm c as g) : JT0 X cm c as (gFz i g) := by
  obtain ⟨t, p, q⟩ := h
  refine ⟨t, p, fun lk sp G F0 F H σ e fs x dx xs hc hF hx hf D k => ?_⟩
  obtain ⟨G', g', x'⟩ := xs.still i
  refine q lk sp G' F0 F H σ _ fs x dx x' ?_ hF hx hf D fun G2 H2 σ2 dx' ws g2 => k G2 H2 σ2 dx' ws (g'.trans g2)
  unfold En.still
  split
  · show (e.cs.set i _)[0]? = _; rw [List.getElem?_set_ne h0]; exact hc
  · show (e.cs.set i _)[0]? = _; rw [List.getElem?_set_ne h0]; exact hc
  · exact hc

theorem j_gl {x : Str} {v : V} {d : D} (hm : ∃ u, X.mg x = some u ∧ RelV v u) (h : ∀ G, Rep cm G d v) (hg : Gl X x := by rfl) (hd : (x == ("__debug__" : Str)) = false := by decide) : JE X cm (.Name x pos) (fC d) := by
  obtain ⟨u, h1, h2⟩ := hm
  exact j_glob h1 h2 h hg hd
end
section
variable {X : Cx} {p1 p2 p3 p4 p5 : Pos} {C : Addr} {fld : Str}
theorem it_body (hc : Cls X.K C) (hn : NoAttr X.K C fld) (hm : X.mg "iter" = none) (hN : X.N[0]? = some ("self" : Str) := by rfl) (hv : Vis X.env.scope "self" := by first | exact Or.inl rfl | exact Or.inr (Or.inl rfl) | exact Or.inr (Or.inr rfl)) (hg : Gl X "iter" := by rfl)
    (hb : attributeBase (.Name "self" p3) fld X.env (eval (.Name "self" p3) X.env) = eval (.Name "self" p3) X.env := by rfl) (he : starEach [.Attribute (.Name "self" p3) fld p4] X.env = (false, eval (.Attribute (.Name "self" p3) fld p4) X.env) :: starEach [] X.env := by rfl) (hpl : (backTo p2 (starEach [] X.env)).any (·.1) = false := by rfl) :
    ∃ t, PSs X [.Return (some (.Call (.Name "iter" p1) [.Attribute (.Name "self" p3) fld p4] [] p2)) p5] t ∧ ∀ vs H Q E, vs.length ≤ 1 → spIt C fld X.s_0.heap.objs.size vs H Q E → t { nx := fun _ H' => Q .non H', rt := Q } (L2.start X.N vs) H := by
  refine ⟨_, pss_one (ps_ret (pe_callB call_iterD hg hm (by decide +kernel) (pa_cons (pe_fld (pe_var (i := 0) hN hv (by decide) (by decide)) hb) pa_nil he) (by decide) (by decide) he hpl)), fun vs H Q E hl h => ?_⟩
  obtain ⟨a, dx, fs, d, od, kvs, rfl, ha, hf, hd, q⟩ := h
  refine ⟨.ref a, by unfold L2.start; simp, a, C, dx, fs, .ref d, rfl, ha, hc, hn, hf, d, od, kvs, rfl, hd, fun it ep es h1 h2 h3 => q it ep es h1 h2 h3⟩
end

/-! y = {k: v for ..}, in the model's other statement -/
section
variable {X : Cx} {cm : CM}
theorem ps_setDc {i : Nat} {y : Str} {py : Pos} {kx vx tg iter : Expr} {ifs : List Expr} {scope : Scope} {own : List (Str × Nat)} {pos spos : Pos} {wi : TI} {g : TG} {tt : TT} {tk tv : TE} (hc : X.calm = true) (hN : X.N.Nodup) (hy : X.N[i]? = some y) (hyl : X.env.scope.names.lookup y = some .local)
    (hsw : swapsWith (.DictComp kx vx [⟨tg, iter, ifs, 0⟩] scope pos) (some (.Name y py)) spos.line X.env = pure true) (hi : PI X tg iter wi) (ok : BlkOk X.N X.env.scope scope own)
    (hg : BlkE X scope fun Y => PG Y tg g) (ht : BlkE X scope fun Y => PTs Y ifs tt) (hk : BlkE X scope fun Y => PE Y kx tk) (he : BlkE X scope fun Y => PE Y vx tv) (hs : ∀ x, foldedSetIterable iter X.env x = pure x := by intro _; rfl) :
    PS X (.Assign [.Name y py] (.DictComp kx vx [⟨tg, iter, ifs, 0⟩] scope pos) spos) (tAsg (tDc wi g tt tk tv (own.map (·.2))) (gName i)) := by
  refine ⟨fun pins s σ H D I h => ?_⟩
  rw [exec_Assign_Name_used _ _ _ _ hsw]
  refine wpAny_bind (wpAny_standAt (wpAny_bind ?_))
  show wpAny _ X.A (do let _ ← comprehension (.DictComp kx vx [⟨tg, iter, ifs, 0⟩] scope pos) scope X.env (firstIterPos [⟨tg, iter, ifs, 0⟩] pos) newDict false (eval iter X.env) (some (assign (.Name y py) X.env))) _ _ s
  have h : tDc wi g tt tk tv (own.map (·.2)) σ H (fun x H1 => gName i x σ H1 D.nx) := h
  refine wpAny_bind (thn (dc_core (Qf := fun _ s' => SP X pins D .next s') hc hN I hi ok hg ht hk he hs h fun L C s' m H' I' q hn f => ?_) fun _ s' hq => wpAny_pure (wpAny_pure hq))
  show wpAny _ _ (assign (.Name y py) X.env (.ref L)) _ _ _
  refine wpAny_assign_Name (store_ok2 (v := V.ref L) I' hN hy (.inl hyl) rfl (fun s2 I2 ⟨a, sb, ha⟩ => ?_) (.inr hyl))
  obtain ⟨f0, f1, f2, f3, f4, f5⟩ := f
  have haC : C ≠ a := by
    rcases ha with z | z
    · rw [z]; exact f1
    · exact fun e => f4 y a z e.symm
  refine ⟨m, hn.sameBut sb haC, fun h3 sb3 => ?_⟩
  exact ⟨_, H', I2.turned (t' := s2.toks) (fun b o hb e => (sb3.2 b hb).trans e) f0 f1 f3 f4 f5, q⟩
theorem sw_trueD {kx vx : Expr} {gs : List Comprehension} {scope : Scope} {pos py : Pos} {y : Str} {l : Nat} {env : Env} (hk : env.scope.kind = .function) (hy : env.scope.names.lookup y = some .local) (hl : (py.line == pos.line) = true)
    (ha : (scope.names.any fun (n, k) => n == y && (k == .local || k == .cell)) = false) : swapsWith (.DictComp kx vx gs scope pos) (some (.Name y py)) l env = pure true := by
  have ky : env.kindOf y = some .local := hy
  have hb : env.blockKind = .function := by unfold Env.blockKind; rw [hk]; rfl
  unfold swapsWith
  simp only [hb, ky, ha, Expr.pos, hl]
  rfl
variable {kx vx tg iter elt : Expr} {ifs : List Expr} {scope : Scope} {pos spos p1 : Pos} {T : Tg} {c : TF} {fk : PF} {fv : FE}
theorem js_set2Dc' {s : AF} {i : Nat} {x : Str} (own : List (Str × Nat)) (hc : X.calm = true) (hN : X.N.Nodup) (hi : JI X cm tg iter s) (ok : BlkOk X.N X.env.scope scope own) (hg : BlkE X scope fun Y => JG Y tg T) (hk : BlkE X scope fun Y => JP Y cm kx fk) (he : BlkE X scope fun Y => JE Y cm vx fv)
    (hyl : X.env.scope.names.lookup x = some .local := by rfl) (hx : X.N[i]? = some x := by rfl) (hl1 : (p1.line == pos.line) = true := by rfl) (hkd : X.env.scope.kind = .function := by rfl)
    (ha : (scope.names.any fun (n, k) => n == x && (k == .local || k == .cell)) = false := by rfl)
    (hs : ∀ x, foldedSetIterable iter X.env x = pure x := by intro _; rfl) : JS X cm (.Assign [.Name x p1] (.DictComp kx vx [⟨tg, iter, [], 0⟩] scope pos) spos) (sSet2 i (f2Dc s T (own.map (·.2)) fk fv)) := by
  obtain ⟨t, p, q⟩ := hi.ex
  refine .of ⟨_, ps_setDc (g := tgT X.K T) (tt := tT cm tYes') (tk := tP cm fk) (tv := tE cm fv) hc hN hx hyl (sw_trueD hkd hyl hl1 ha) p ok hg (fun _ _ _ _ _ => jts_nil) hk he hs, ok_set2 fun lk sp G F H σ e ds S' x hf Q k => ?_⟩
  obtain ⟨⟨ds1, S1⟩, z1, hf⟩ := Option.bind_eq_some_iff.mp hf
  split at hf
  · rename_i hcc
    obtain ⟨hz, hvs⟩ := hcc
    exact dcomp_core2 x (fun R k => q lk sp G F H σ e ds1 S1 x z1 R k) hz hvs hf k
  · cases hf
theorem js_setDc {s : AF} {i : Nat} {x : Str} (own : List (Str × Nat)) (hc : X.calm = true) (hN : X.N.Nodup) (hi : JI X cm tg iter s) (ok : BlkOk X.N X.env.scope scope own) (hg : BlkE X scope fun Y => JG Y tg T) (ht : BlkE X scope fun Y => JTs Y cm ifs c) (hk : BlkE X scope fun Y => JP Y cm kx fk) (he : BlkE X scope fun Y => JE Y cm vx fv)
    (hyl : X.env.scope.names.lookup x = some .local := by rfl) (hx : X.N[i]? = some x := by rfl) (hl1 : (p1.line == pos.line) = true := by rfl) (hkd : X.env.scope.kind = .function := by rfl)
    (ha : (scope.names.any fun (n, k) => n == x && (k == .local || k == .cell)) = false := by rfl)
    (hs : ∀ x, foldedSetIterable iter X.env x = pure x := by intro _; rfl) : JS X cm (.Assign [.Name x p1] (.DictComp kx vx [⟨tg, iter, ifs, 0⟩] scope pos) spos) (sSet i (fDc s T (own.map (·.2)) c fk fv)) := by
  obtain ⟨t, p, q⟩ := hi.ex
  refine .of ⟨_, ps_setDc (g := tgT X.K T) (tt := tT cm c) (tk := tP cm fk) (tv := tE cm fv) hc hN hx hyl (sw_trueD hkd hyl hl1 ha) p ok hg ht hk he hs, ok_set fun lk sp G F H σ e r S' x hf0 Q k => ?_⟩
  obtain ⟨⟨ds, S1⟩, z1, hf⟩ := Option.bind_eq_some_iff.mp hf0
  clear hf0
  split at hf
  · rename_i hcc
    obtain ⟨hz, hvs⟩ := hcc
    obtain ⟨⟨rs, S2⟩, z2, hf⟩ := Option.map_eq_some_iff.mp hf
    cases hf
    exact dcomp_core x (fun R k => q lk sp G F H σ e ds S1 x z1 R k) hz hvs z2 k
  · cases hf
theorem js_setLc' {s : AF} {i : Nat} {x : Str} {f : FE} (own : List (Str × Nat)) (hc : X.calm = true) (hN : X.N.Nodup) (hi : JI X cm tg iter s) (ok : BlkOk X.N X.env.scope scope own) (hg : BlkE X scope fun Y => JG Y tg T) (ht : BlkE X scope fun Y => JTs Y cm ifs c) (he : BlkE X scope fun Y => JE Y cm elt f)
    (hyl : X.env.scope.names.lookup x = some .local := by rfl) (hx : X.N[i]? = some x := by rfl) (hl1 : (p1.line == pos.line) = true := by rfl) (hkd : X.env.scope.kind = .function := by rfl)
    (ha : (scope.names.any fun (n, k) => n == x && (k == .local || k == .cell)) = false := by rfl)
    (hs : ∀ x, foldedSetIterable iter X.env x = pure x := by intro _; rfl) : JS X cm (.Assign [.Name x p1] (.ListComp elt [⟨tg, iter, ifs, 0⟩] scope pos) spos) (sSet i (fComp s T (own.map (·.2)) c f)) :=
  js_setLc own hc hN hyl (sw_true hkd hyl hl1 ha) hi ok hg ht he hx hs
end
end Al


set_option Elab.async false
set_option linter.all false
set_option maxRecDepth 100000
/-! What defs compute: printed. -/
namespace Al.Cm
open PySem PySem.Spec PyProof.Rows L2 Al

noncomputable def g_is_list : FS := (sRet (fIsi ["list", "tuple"] (pVar 0)))
noncomputable def Φ_is_list : Fn := runF 1 g_is_list
noncomputable def g_is_name : FS := (sSeq (sIf (tOr' (tNt (tEb (fIsi ["str"] (pVar 0)))) (tNt (tEb (fChain iLe iLe (pE (fC (.int 1))) (pE (fApp bLenT (aCons (pVar 0) aNil))) (pE (fC (.int 8))))))) (sRet (fC (.bl false))) sNx) (sSeq (sIf (tEb (fBin (sIn true) (pE (fBin xStr (pVar 0) (pE (fC (.int 0))))) (pE (fC (.str "abcdefghijklmnopqrstuvwxyz"))))) (sRet (fC (.bl false))) sNx) (sRet (fApp bAll (aCons (pE (fComp (iStrs (fVar 0)) (.nm 1) [1] tYes' (fBin (sIn false) (pVar 1) (pE (fC (.str "abcdefghijklmnopqrstuvwxyz0123456789")))))) aNil)))))
noncomputable def Φ_is_name : Fn := runF 2 g_is_name
noncomputable def g_are_players : FS := (sSeq (sIf (tOr' (tNt (tEb (fCl Φ_is_list 1 (kCons (fVar 0) aNil)))) (tOr' (tNt (tEb (fChain iLe iLe (pE (fC (.int 1))) (pE (fApp bLenS (aCons (pVar 0) aNil))) (pE (fC (.int 31)))))) (tNt (tEb (fApp bAll (aCons (pE (fComp (fItems (fVar 0)) (.nm 1) [1] tYes' (fCl Φ_is_name 1 (kCons (fVar 1) aNil)))) aNil)))))) (sRet (fC (.bl false))) sNx) (sRet (fBin gEq (pE (fApp bLenD (aCons (pE (fDc (fItems (fVar 0)) (.nm 1) [1] tYes' (pVar 1) (fC (.bl true)))) aNil))) (pE (fApp bLenS (aCons (pVar 0) aNil))))))
noncomputable def Φ_are_players : Fn := runF 2 g_are_players
noncomputable def g_are_pairs : FS := (sSeq (sIf (tNt (tEb (fCl Φ_is_list 1 (kCons (fVar 1) aNil)))) (sRet (fC (.bl false))) sNx) (sSeq (sFor (fItems (fVar 1)) (.nm 2) (sSeq (sIf (tOr' (tNt (tEb (fCl Φ_is_list 1 (kCons (fVar 2) aNil)))) (tOr' (tEb (fBin gNe (pE (fApp bLenS (aCons (pVar 2) aNil))) (pE (fC (.int 2))))) (tNt (tEb (fApp bAll (aCons (pE (fComp (fItems (fVar 2)) (.nm 3) [3] tYes' (fAn (fIsi ["str"] (pVar 3)) (fDin false (pVar 3) (pVar 0))))) aNil)))))) (sRet (fC (.bl false))) sNx) (sIf (tEb (fBin gEq (pE (fBin xTup (pVar 2) (pE (fC (.int 0))))) (pE (fBin xTup (pVar 2) (pE (fC (.int 1))))))) (sRet (fC (.bl false))) sNx))) (sRet (fC (.bl true)))))
noncomputable def Φ_are_pairs : Fn := runF 4 g_are_pairs
noncomputable def g_games_of : FS := (sSeq (sSet 2 (fApp bSortD (aCons (pVar 0) aNil))) (sSeq (sSet 3 fDt0) (sFz 2 (sSeq (sFor (iEn (kCons (fVar 2) aNil)) (.tp [4, 5]) (sFor (fItems (fSl slLst (pVar 2) (oSo (fBin iAdd (pVar 4) (pE (fC (.int 1))))) oNo)) (.nm 6) (sSt 3 puD (pE (fTup (kCons (fVar 5) (kCons (fVar 6) aNil)))) (fC (.int 0))))) (sSeq (sFor (fItems (fVar 1)) (.tp [5, 6]) (sAgD 3 (· + ·) (pE (fTup (kCons (fApp bMinS (aCons (pVar 5) (aCons (pVar 6) aNil))) (kCons (fApp bMaxS (aCons (pVar 5) (aCons (pVar 6) aNil))) aNil)))) (fC (.int 1)))) (sRetV 3))))))
noncomputable def Φ_games_of : Fn := runF 7 g_games_of
noncomputable def g_Plays : FT := (gSeq (sIf (tNt (tEb (fCl Φ_are_players 1 (kCons (fVar 1) aNil)))) sNo sNx) (gSeq (sSet2 3 (f2Dc (fItems (fApp bSortL (aCons (pVar 1) aNil))) (.nm 4) [4] (pVar 4) fDk0)) (gSeq (sIf (tLend 3 (tNt (tEb (fCl Φ_are_pairs 2 (kCons (fVar 3) (kCons (fVar 2) aNil)))))) sNo sNx) (gSeq (sSet 5 (fLend 3 (fCl Φ_games_of 2 (kCons (fVar 3) (kCons (fVar 2) aNil))))) (gSeq (sFz 5 (sForD (dKeys (vVar 5)) (.nm 6) (sIf (tEb (fBin iGt (pE (fDget (pVar 5) (pVar 6))) (pE (fC (.int 1))))) sNo sNx))) (gSeq (sForD (dKeys (vVar 5)) (.nm 6) (sIf (tEb (fBin gEq (pE (fDget (pVar 5) (pVar 6))) (pE (fC (.int 0))))) sNo sNx)) (gSeq (sFor (fItems (fVar 2)) (.tp [4, 7]) (sSt2 3 puD (pVar 4) (pVar 7) (fC (.bl true)))) (gFz 3 (gFld "rows" (fVar 3))))))))))
noncomputable def Φ_Plays : FnI := runI 8 g_Plays
noncomputable def g_players : FS := (sRet (fApp bLstD (aCons (pE (fFld 0 "rows" (pVar 0))) aNil)))
noncomputable def Φ_players : Fn := runF 1 g_players
noncomputable def g_wins : FS := (sRet (fComp2D (dKeys (vFld 0 "rows" (vVar 0))) (.nm 1) [1, 2] tYes' (fItems (fApp bSortD (aCons (pE (fDget (pE (fFld 0 "rows" (pVar 0))) (pVar 1))) aNil))) (.nm 2) [2] tYes' (fTup (kCons (fVar 1) (kCons (fVar 2) aNil)))))
noncomputable def Φ_wins : Fn := runF 3 g_wins
noncomputable def g_turned : FS := (sRet (fMk 0 Φ_Plays 3 (kCons (fMt 0 "players" Φ_players 1 (fVar 0) aNil) (kCons (fComp (fItems (fMt 0 "wins" Φ_wins 1 (fVar 0) aNil)) (.tp [1, 2]) [1, 2] tYes' (fTup (kCons (fVar 2) (kCons (fVar 1) aNil)))) aNil))))
noncomputable def Φ_turned : Fn := runF 3 g_turned
noncomputable def g_scores : FS := (sRet (fDcD (dOwn 0 "rows" (vVar 0)) (.nm 1) [1] tYes' (pVar 1) (fApp bLenD (aCons (pE (fDget (pE (fFld 0 "rows" (pVar 0))) (pVar 1))) aNil))))
noncomputable def Φ_scores : Fn := runF 2 g_scores
noncomputable def g_score_list : FS := (sRet (fApp bSortL (aCons (pE (fCompD (dOwn 0 "rows" (vVar 0)) (.nm 1) [1] tYes' (fApp bLenD (aCons (pE (fDget (pE (fFld 0 "rows" (pVar 0))) (pVar 1))) aNil)))) aNil)))
noncomputable def Φ_score_list : Fn := runF 2 g_score_list
noncomputable def g__law_spring (a : Addr) (B : Hp) (ns : List Int) : FS := (sSeq (sPar [2, 3] (kCons (fIf (tEb (fBin iLt (pVar 1) (pE (fRawLen a B ns 0)))) (fRawIx a B ns 0 (fVar 1)) (fBin iAdd (pE (fBin iMul (pE (fC (.int 7))) (pVar 1))) (pE (fRawLen a B ns 0)))) (kCons (fBin iAdd (pE (fC (.int 1009))) (pE (fBin iMul (pE (fC (.int 97))) (pVar 1)))) aNil))) (sSeq (sFor (iEn (kCons (fRawTake a B ns 0 63) aNil)) (.tp [4, 5]) (sSet 3 (fBin iMod (pE (fApp bInt (aCons (pE (fBin iAdd (pE (fBin iAdd (pE (fBin iAdd (pE (fBin iMul (pVar 3) (pE (fC (.int 69069))))) (pVar 5))) (pE (fBin iMul (pE (fC (.int 5))) (pVar 4))))) (pE (fC (.int 1))))) aNil))) (pE (fC (.int 2147483629)))))) (sRet (fLst (kCons (fIf (tEb (fBin iGe (pVar 2) (pE (fBin iPow (pE (fC (.int 10))) (pE (fC (.int 18))))))) (fVar 2) (fC (.int 0))) (kCons (fBin iMod (pE (fApp bInt (aCons (pE (fBin iAdd (pVar 3) (pE (fBin iMul (pVar 2) (pE (fC (.int 31))))))) aNil))) (pE (fC (.int 2147483647)))) (kCons (fC (.int 0)) aNil)))))))
noncomputable def Φ__law_spring : FnR := runR 6 g__law_spring
noncomputable def g__law_draw : FS := (sSeq (sIf (tEb (fBin iGt (pE (fSpr 0 0)) (pE (fC (.int 0))))) (sSeq (sSet 2 (fBin iMod (pE (fApp bInt (aCons (pE (fSpr 0 0)) aNil))) (pVar 1))) (sSeq (sSpr 0 0 (fBin iDiv (pE (fSpr 0 0)) (pVar 1))) (sRetV 2))) sNx) (sSeq (sSpr 0 2 (fBin iAdd (pE (fSpr 0 2)) (pE (fC (.int 1))))) (sSeq (sSet 3 (fBin iMod (pE (fBin iPow (pE (fApp bInt (aCons (pE (fBin iAdd (pE (fBin iAdd (pE (fSpr 0 1)) (pE (fBin iMul (pE (fC (.int 6364137))) (pE (fSpr 0 2)))))) (pE (fC (.int 1442695))))) aNil))) (pE (fC (.int 3))))) (pE (fC (.int 2147483647))))) (sRet (fBin iMod (pE (fBin iDiv (pE (fBin iMod (pE (fBin iPow (pE (fApp bInt (aCons (pE (fBin iAdd (pE (fBin iMul (pVar 3) (pE (fC (.int 48271))))) (pE (fBin iMul (pE (fC (.int 11))) (pE (fSpr 0 2)))))) aNil))) (pE (fC (.int 3))))) (pE (fC (.int 2147483629))))) (pE (fC (.int 8))))) (pVar 1))))))
noncomputable def Φ__law_draw : FnS := runS 4 g__law_draw
noncomputable def g__law_pick : FS := (sRet (fBin xLst (pVar 1) (pE (fClS Φ__law_draw 2 (qSpr 0 (qCons (fApp bLenS (aCons (pVar 1) aNil)) qNil))))))
noncomputable def Φ__law_pick : FnS := runS 2 g__law_pick
noncomputable def g__law_mixed : FS := (sSeq (sSet 2 (fApp bLstS (aCons (pVar 1) aNil))) (sPop (fRng1 (aCons (pE (fApp bLenS (aCons (pVar 2) aNil))) aNil)) 2 (.nm 3) [3] (fClS Φ__law_draw 2 (qSpr 0 (qCons (fApp bLenS (aCons (pVar 2) aNil)) qNil)))))
noncomputable def Φ__law_mixed : FnS := runS 4 g__law_mixed
def g__law_same (Φ__law_same : Fn) : FS := (sSeq (sIf (tEb (fIsi ["dict"] (pVar 1))) (sRet (fAn (fIsi ["dict"] (pVar 0)) (fCl Φ__law_same 2 (kCons (fItL (pVar 0)) (kCons (fItL (pVar 1)) aNil))))) sNx) (sSeq (sIf (tEb (fIsi ["list", "tuple"] (pVar 1))) (sSeq (sIf (tOr' (tEb (fBin gNe (pE (fIsi ["list"] (pVar 0))) (pE (fIsi ["list"] (pVar 1))))) (tEb (fBin gNe (pE (fIsi ["tuple"] (pVar 0))) (pE (fIsi ["tuple"] (pVar 1)))))) (sRet (fC (.bl false))) sNx) (sRet (fAn (fBin gEq (pE (fApp bLenS (aCons (pVar 0) aNil))) (pE (fApp bLenS (aCons (pVar 1) aNil)))) (fApp bAll (aCons (pE (fComp (iZpA (kCons (fVar 0) (kCons (fVar 1) aNil))) (.tp [2, 3]) [2, 3] tYes' (fCl Φ__law_same 2 (kCons (fVar 2) (kCons (fVar 3) aNil))))) aNil))))) sNx) (sSeq (sSet 4 (fAn (fBin gEq (pE (fIsi ["bool"] (pVar 0))) (pE (fIsi ["bool"] (pVar 1)))) (fBin gEq (pE (fIsi ["int"] (pVar 0))) (pE (fIsi ["int"] (pVar 1)))))) (sSeq (sIf (tOr' (tEb (fIsi ["dict", "list", "tuple"] (pVar 0))) (tOr' (tNt (tEb (fVar 4))) (tEb (fBin gNe (pE (fIsi ["str"] (pVar 0))) (pE (fIsi ["str"] (pVar 1))))))) (sRet (fC (.bl false))) sNx) (sRet (fIf (tEb (fBin gIsN (pVar 1) (pE (fC .non)))) (fBin gIsN (pVar 0) (pE (fC .non))) (fBin gEq (pVar 0) (pVar 1))))))))
def Φ__law_same : Nat → Fn
  | 0 => fun _ => none
  | n + 1 => runF 5 (g__law_same (Φ__law_same n))
noncomputable def g__law_b_names : FS := (sSeq (sSet 2 fDk0) (sSeq (sWh (tEb (fBin iLt (pE (fApp bLenD (aCons (pVar 2) aNil))) (pVar 1))) (sSeq (sSet 3 (fClS Φ__law_pick 2 (qSpr 0 (qCons (fApp bLstStr (aCons (pE (fC (.str "abgkmqvz"))) aNil)) qNil)))) (sSeq (sIf (tAn (tTruO 2) (tEb (fBin gEq (pE (fClS Φ__law_draw 2 (qSpr 0 (qCons (fC (.int 3)) qNil)))) (pE (fC (.int 0)))))) (sSet 3 (fBin sAdd (pE (fSl slStr (pE (fClS Φ__law_pick 2 (qSpr 0 (qCons (fApp bLstD (aCons (pVar 2) aNil)) qNil)))) oNo (oSo (fC (.int 6))))) (pE (fClS Φ__law_pick 2 (qSpr 0 (qCons (fLst (kCons (fC (.str "0")) (kCons (fC (.str "9")) (kCons (fC (.str "a")) (kCons (fC (.str "z")) (kCons (fC (.str "m")) aNil)))))) qNil)))))) sNx) (sSeq (sFor (fRng1 (aCons (pE (fClS Φ__law_draw 2 (qSpr 0 (qCons (fC (.int 4)) qNil)))) aNil)) (.nm 4) (sSet 3 (fBin sAdd (pVar 3) (pE (fClS Φ__law_pick 2 (qSpr 0 (qCons (fApp bLstStr (aCons (pE (fC (.str "aehinsuxyz057"))) aNil)) qNil))))))) (sSeq (sSet 3 (fSl slStr (pVar 3) oNo (oSo (fC (.int 7))))) (sSeq (sFor (iStrs (fC (.str "0123456789abcdefghijklmnopqrstuvwxyz"))) (.nm 5) (sIf (tEb (fDin false (pVar 3) (pVar 2))) (sSet 3 (fBin sAdd (pE (fSl slStr (pVar 3) oNo (oSo (fC (.int 6))))) (pVar 5))) sNx)) (sSeq (sSet 3 (fIf (tEb (fDin false (pVar 3) (pVar 2))) (fBin sAdd (pE (fC (.str "n"))) (pE (fApp bStr (aCons (pE (fApp bLenD (aCons (pVar 2) aNil))) aNil)))) (fVar 3))) (sSt 2 puD (pVar 3) (fC (.int 1))))))))) 40) (sRet (fApp bLstD (aCons (pVar 2) aNil)))))
noncomputable def Φ__law_b_names : FnS := runS 6 g__law_b_names
noncomputable def g__law_b_shape : FS := (sSeq (sPar [2, 3, 4] (kCons (fClS Φ__law_draw 2 (qSpr 0 (qCons (fC (.int 6)) qNil))) (kCons (fClS Φ__law_pick 2 (qSpr 0 (qCons (fLst (kCons (fC (.int 2)) (kCons (fC (.int 3)) (kCons (fC (.int 6)) (kCons (fC (.int 20)) aNil))))) qNil))) (kCons (fBin iAdd (pE (fC (.int 1))) (pE (fClS Φ__law_draw 2 (qSpr 0 (qCons (fVar 1) qNil))))) aNil)))) (sSeq (sSet 5 (fLst aNil)) (sSeq (sFor (fRng1 (aCons (pVar 1) aNil)) (.nm 6) (sFor (fRng2 (aCons (pE (fBin iAdd (pVar 6) (pE (fC (.int 1))))) (aCons (pVar 1) aNil))) (.nm 7) (sSeq (sSet 8 (fC (.bl true))) (sSeq (sIf (tEb (fBin (lIn false) (pVar 2) (pE (fLst (kCons (fC (.int 1)) (kCons (fC (.int 2)) aNil)))))) (sSet 8 (fBin iGt (pE (fClS Φ__law_draw 2 (qSpr 0 (qCons (fIf (tEb (fBin gEq (pVar 2) (pE (fC (.int 1))))) (fVar 3) (fC (.int 2))) qNil)))) (pE (fC (.int 0))))) sNx) (sSeq (sIf (tEb (fBin gEq (pVar 2) (pE (fC (.int 3))))) (sSet 8 (fBin iLe (pE (fBin iMul (pE (fC (.int 2))) (pE (fBin iSub (pVar 7) (pVar 6))))) (pVar 1))) sNx) (sSeq (sIf (tEb (fBin gEq (pVar 2) (pE (fC (.int 4))))) (sSet 8 (fOrV (fChain iLt iLe (pVar 6) (pVar 4) (pVar 7)) (fBin iGt (pE (fClS Φ__law_draw 2 (qSpr 0 (qCons (fC (.int 2)) qNil)))) (pE (fC (.int 0)))))) sNx) (sSeq (sIf (tEb (fBin gEq (pVar 2) (pE (fC (.int 5))))) (sSet 8 (fBin iLt (pE (fBin iSub (pVar 7) (pVar 6))) (pVar 4))) sNx) (sMu 5 muApp (kCons (fIf (tEb (fVar 8)) (fTup (kCons (fVar 6) (kCons (fVar 7) aNil))) (fTup (kCons (fVar 7) (kCons (fVar 6) aNil)))) aNil))))))))) (sRetV 5))))
noncomputable def Φ__law_b_shape : FnS := runS 9 g__law_b_shape
noncomputable def g__law_b_drawn : FS := (sSeq (sSet 2 (fClS Φ__law_b_names 2 (qSpr 0 (qCons (fVar 1) qNil)))) (sFz 2 (sRet (fTup (kCons (fClS Φ__law_mixed 2 (qSpr 0 (qCons (fVar 2) qNil))) (kCons (fClS Φ__law_mixed 2 (qSpr 0 (qCons (fComp (fItems (fClS Φ__law_b_shape 2 (qSpr 0 (qCons (fVar 1) qNil)))) (.tp [3, 4]) [3, 4] tYes' (fTup (kCons (fBin xLst (pVar 2) (pVar 3)) (kCons (fBin xLst (pVar 2) (pVar 4)) aNil)))) qNil))) aNil))))))
noncomputable def Φ__law_b_drawn : FnS := runS 5 g__law_b_drawn
noncomputable def g__law_b_rows : FS := (sSeq (sSet2 2 (f2Dc (fItems (fApp bSortL (aCons (pVar 0) aNil))) (.nm 3) [3] (pVar 3) (fLst aNil))) (sSeq (sFor (fItems (fApp bSortL (aCons (pE (fComp (fItems (fVar 1)) (.nm 5) [5] tYes' (fApp bTup (aCons (pVar 5) aNil)))) aNil))) (.tp [3, 4]) (sMu2 2 muApp (pVar 3) (kCons (fVar 4) aNil))) (sFz 2 (sRetV 2))))
noncomputable def Φ__law_b_rows : Fn := runF 6 g__law_b_rows
end Al.Cm


set_option Elab.async false
set_option linter.all false
set_option maxRecDepth 100000
/-! allplay_k04_whole_scores_told: the walk, printed. -/
namespace Al.allplay_k04_whole_scores_told
open PySem PySem.Spec PyProof.Rows L2 Al Al.Cm
def top (i : Nat) : Stmt := PySem.Challenge.pw_allplay_k04_whole_scores_told.main.body.getD i (.Pass ⟨0, 0, 0, 0⟩)

structure Txt (K : PySem.W.Frag) (mg : Str → Option Value) (cm : CM) (fIt : Addr) : Prop where
  cl : Cls K (cm 0)
  f_rows : NoAttr K (cm 0) "rows"
  it : PySem.W.findIn K (.ref (cm 0)) "__iter__" = some (some (.ref fIt))
  itF : PySem.W.isFn K (.ref fIt) = true
  z_all : mg "all" = none
  z_bool : mg "bool" = none
  z_dict : mg "dict" = none
  z_enumerate : mg "enumerate" = none
  z_int : mg "int" = none
  z_isinstance : mg "isinstance" = none
  z_iter : mg "iter" = none
  z_len : mg "len" = none
  z_list : mg "list" = none
  z_max : mg "max" = none
  z_min : mg "min" = none
  z_range : mg "range" = none
  z_sorted : mg "sorted" = none
  z_str : mg "str" = none
  z_sum : mg "sum" = none
  z_tuple : mg "tuple" = none
  z_zip : mg "zip" = none
  c_LETTERS : ∃ u, mg "LETTERS" = some u ∧ RelV (.str "abcdefghijklmnopqrstuvwxyz") u
  c_MANY : ∃ u, mg "MANY" = some u ∧ RelV (.int 31) u
  c_SIGNS : ∃ u, mg "SIGNS" = some u ∧ RelV (.str "abcdefghijklmnopqrstuvwxyz0123456789") u
section
variable {P : Program} {w : World} {K : PySem.W.Frag} {mg : Str → Option Value} {base : Heap} {cm : CM} {fIt : Addr}

theorem sc_iter : FnScope ["self"] ["self"] (defScope (inClass (top 21) 3)) := ⟨rfl, rfl, rfl, by decide +kernel, rfl, by decide +kernel, by decide +kernel⟩
theorem ok_iter {f : Addr} {fd : FuncData} (F : Fun K "__iter__" "Plays.__iter__" (inClass (top 21) 3) f fd) (T : Txt K mg cm fIt) : FnN P w K mg base 1 f fd ["self"] (spIt (cm 0) "rows") := by
  refine fn_ofN F sc_iter (fun n vs H Q E h => ?_) fun cdv A outer s H vs Q E hr h => ?_
  · obtain ⟨a, dx, fs, d, od, kvs, rfl, _⟩ := h; rfl
  · obtain ⟨t, p, q⟩ := it_body (X := (cxOf CX0 P w K mg base ["self"] "Plays.__iter__" (defScope (inClass (top 21) 3)) f cdv A outer s H E).nox) T.cl T.f_rows T.z_iter
    refine ⟨t, p, q vs H Q E ?_ h⟩
    obtain ⟨a, dx, fs, d, od, kvs, rfl, _⟩ := h
    exact Nat.le_refl _

abbrev N_is_list : List Str := ["thing"]
theorem sc_is_list : FnScope N_is_list ["thing"] (defScope (top 7)) := ⟨rfl, rfl, rfl, by decide +kernel, rfl, by decide +kernel, by decide +kernel⟩
theorem ok_is_list {f : Addr} {fd : FuncData} (F : Fun K "is_list" "is_list" (top 7) f fd) (T : Txt K mg cm fIt)  : FnOk P w K mg base CX0 1 f fd ["thing"] (spP cm Φ_is_list 1) := def_ok F sc_is_list fun q f cdv A outer s H E hr => by
  have sc := sc_is_list
  have hu := hu_of hr
  have hu0 : _ < cLine := Nat.lt_of_le_of_lt (Nat.le_add_right _ 64) hr.units
  have hu64 := hr.units
  exact (jb_one (js_ret (j_isiT ["list", "tuple"] (jp_var 0) T.z_isinstance (pa_ty (pa_ty pa_nil T.z_tuple) T.z_list))))

abbrev N_is_name : List Str := ["thing", "sign"]
theorem sc_is_name : FnScope N_is_name ["thing"] (defScope (top 8)) := ⟨rfl, rfl, rfl, by decide +kernel, rfl, by decide +kernel, by decide +kernel⟩
theorem ok_is_name {f : Addr} {fd : FuncData} (F : Fun K "is_name" "is_name" (top 8) f fd) (T : Txt K mg cm fIt)  : FnOk P w K mg base CX0 1 f fd ["thing"] (spP cm Φ_is_name 1) := def_ok F sc_is_name fun q f cdv A outer s H E hr => by
  have sc := sc_is_name
  have hu := hu_of hr
  have hu0 : _ < cLine := Nat.lt_of_le_of_lt (Nat.le_add_right _ 64) hr.units
  have hu64 := hr.units
  exact (jb_cons (js_if (jt_w (jw_or (jt_not (jt_val (j_isi "str" (jp_var 0) T.z_isinstance T.z_str))) (jw_or1 (jt_not (jt_chain jo_iLe jo_iLe (jp j_int) (jp (j_callB jc_lenT T.z_len (ja_cons (jp_var 0) ja_nil))) (jp j_int)))))) (jb_one (js_ret j_bl)) jb_nil) (jb_cons (js_if (jt_cmp jo_sNotIn (jp (j_ix jx_str (jp_var 0) (jp j_int))) (jp (j_gl T.c_LETTERS (fun _ => rfl)))) (jb_one (js_ret j_bl)) jb_nil) (jb_one (js_ret (j_callB (jc_all rfl) T.z_all (ja_cons (jp (j_lc [("sign", 1)] rfl sc.nd (ji_str (j_var 0)) (show BlkOk N_is_name (defScope (top 8)) _ _ from by constructor <;> decide +kernel) (fun _ _ _ _ _ => (jg_name 1 sc.nd)) (fun _ _ _ _ _ => jts_nil) (fun _ _ _ _ _ => (j_cmp jo_sIn (jp_var 1) (jp (j_gl T.c_SIGNS (fun _ => rfl))))))) ja_nil))))))

abbrev N_are_players : List Str := ["thing", "one"]
theorem sc_are_players : FnScope N_are_players ["thing"] (defScope (top 18)) := ⟨rfl, rfl, rfl, by decide +kernel, rfl, by decide +kernel, by decide +kernel⟩
theorem ok_are_players {f : Addr} {fd : FuncData} (F : Fun K "are_players" "are_players" (top 18) f fd) (T : Txt K mg cm fIt) (c_is_list : Cal P w K mg base 1 "is_list" (spP cm Φ_is_list 1)) (c_is_name : Cal P w K mg base 1 "is_name" (spP cm Φ_is_name 1)) : FnOk P w K mg base CX0 2 f fd ["thing"] (spP cm Φ_are_players 1) := def_ok F sc_are_players fun q f cdv A outer s H E hr => by
  have sc := sc_are_players
  have hu := hu_of hr
  have hu0 : _ < cLine := Nat.lt_of_le_of_lt (Nat.le_add_right _ 64) hr.units
  have hu64 := hr.units
  exact (jb_cons (js_if (jt_w (jw_or (jt_not (jt_val (j_cl c_is_list hr (by decide) (jk_cons (j_var 0) jk_nil)))) (jw_or (jt_not (jt_chain jo_iLe jo_iLe (jp j_int) (jp (j_callB jc_lenS T.z_len (ja_cons (jp_var 0) ja_nil))) (jp (j_gl T.c_MANY (fun _ => rfl))))) (jw_or1 (jt_not (jt_val (j_callB (jc_all rfl) T.z_all (ja_cons (jp (j_lc [("one", 1)] rfl sc.nd (ji_seq (j_var 0)) (show BlkOk N_are_players (defScope (top 18)) _ _ from by constructor <;> decide +kernel) (fun _ _ _ _ _ => (jg_name 1 sc.nd)) (fun _ _ _ _ _ => jts_nil) (fun _ _ _ _ _ => (j_cl c_is_name hr (by decide) (jk_cons (j_var 1) jk_nil))))) ja_nil)))))))) (jb_one (js_ret j_bl)) jb_nil) (jb_one (js_ret (j_cmp jo_eq (jp (j_callB jc_lenD T.z_len (ja_cons (jp (j_dc [("one", 1)] rfl sc.nd (ji_seq (j_var 0)) (show BlkOk N_are_players (defScope (top 18)) _ _ from by constructor <;> decide +kernel) (fun _ _ _ _ _ => (jg_name 1 sc.nd)) (fun _ _ _ _ _ => jts_nil) (fun _ _ _ _ _ => (jp_var 1)) (fun _ _ _ _ _ => j_bl))) ja_nil))) (jp (j_callB jc_lenS T.z_len (ja_cons (jp_var 0) ja_nil)))))))

abbrev N_are_pairs : List Str := ["held", "thing", "pair", "one"]
theorem sc_are_pairs : FnScope N_are_pairs ["held", "thing"] (defScope (top 19)) := ⟨rfl, rfl, rfl, by decide +kernel, rfl, by decide +kernel, by decide +kernel⟩
theorem ok_are_pairs {f : Addr} {fd : FuncData} (F : Fun K "are_pairs" "are_pairs" (top 19) f fd) (T : Txt K mg cm fIt) (c_is_list : Cal P w K mg base 1 "is_list" (spP cm Φ_is_list 1)) : FnOk P w K mg base CX0 2 f fd ["held", "thing"] (spP cm Φ_are_pairs 2) := def_ok F sc_are_pairs fun q f cdv A outer s H E hr => by
  have sc := sc_are_pairs
  have hu := hu_of hr
  have hu0 : _ < cLine := Nat.lt_of_le_of_lt (Nat.le_add_right _ 64) hr.units
  have hu64 := hr.units
  exact (jb_cons (js_if (jt_not (jt_val (j_cl c_is_list hr (by decide) (jk_cons (j_var 1) jk_nil)))) (jb_one (js_ret j_bl)) jb_nil) (jb_cons (js_for PassesOwn.never rfl (ji_seq (j_var 1)) (jg_name 2 sc.nd) (jb_cons (js_if (jt_w (jw_or (jt_not (jt_val (j_cl c_is_list hr (by decide) (jk_cons (j_var 2) jk_nil)))) (jw_or (jt_cmp jo_ne (jp (j_callB jc_lenS T.z_len (ja_cons (jp_var 2) ja_nil))) (jp j_int)) (jw_or1 (jt_not (jt_val (j_callB (jc_all rfl) T.z_all (ja_cons (jp (j_lc [("one", 3)] rfl sc.nd (ji_seq (j_var 2)) (show BlkOk N_are_pairs (defScope (top 19)) _ _ from by constructor <;> decide +kernel) (fun _ _ _ _ _ => (jg_name 3 sc.nd)) (fun _ _ _ _ _ => jts_nil) (fun _ _ _ _ _ => (j_and (j_isi "str" (jp_var 3) T.z_isinstance T.z_str) (j_one (j_din hu (jp_var 3) (jp_var 0))))))) ja_nil)))))))) (jb_one (js_ret j_bl)) jb_nil) (jb_one (js_if (jt_cmp jo_eq (jp (j_ix jx_tup (jp_var 2) (jp j_int))) (jp (j_ix jx_tup (jp_var 2) (jp j_int)))) (jb_one (js_ret j_bl)) jb_nil)))) (jb_one (js_ret j_bl))))

abbrev N_games_of : List Str := ["held", "wins", "players", "told", "index", "one", "other"]
theorem sc_games_of : FnScope N_games_of ["held", "wins"] (defScope (top 20)) := ⟨rfl, rfl, rfl, by decide +kernel, rfl, by decide +kernel, by decide +kernel⟩
theorem ok_games_of {f : Addr} {fd : FuncData} (F : Fun K "games_of" "games_of" (top 20) f fd) (T : Txt K mg cm fIt)  : FnOk P w K mg base CX0 1 f fd ["held", "wins"] (spP cm Φ_games_of 2) := def_ok F sc_games_of fun q f cdv A outer s H E hr => by
  have sc := sc_games_of
  have hu := hu_of hr
  have hu0 : _ < cLine := Nat.lt_of_le_of_lt (Nat.le_add_right _ 64) hr.units
  have hu64 := hr.units
  exact (jb_cons (js_set (i := 2) sc.nd (j_callB (jc_sortD rfl) T.z_sorted (ja_cons (jp_var 0) ja_nil))) (jb_cons (js_set (i := 3) sc.nd j_dt0) (jb_fz 2 (jb_cons (js_for PassesOwn.never rfl (ji_enum T.z_enumerate (jk_cons (j_var 2) jk_nil)) (jg_tup rfl (jgs_cons (jg_name 4 sc.nd) (jgs_cons (jg_name 5 sc.nd) jgs_nil))) (jb_one (js_for PassesOwn.never rfl (ji_seq (j_sl jsl_lst (jp_var 2) (jo_so (j_bin jo_iAdd (jp_var 4) (jp j_int))) jo_no)) (jg_name 6 sc.nd) (jb_one (js_stD 3 hu j_int (jp (j_tup (jk_cons (j_var 5) (jk_cons (j_var 6) jk_nil))))))))) (jb_cons (js_for PassesOwn.never rfl (ji_seq (j_var 1)) (jg_tup rfl (jgs_cons (jg_name 5 sc.nd) (jgs_cons (jg_name 6 sc.nd) jgs_nil))) (jb_one (js_agD 3 in_add (fun a b H Q q => ⟨a, b, rfl, rfl, q⟩) hu j_int (jp (j_tup (jk_cons (j_callB (jc_minS rfl) T.z_min (ja_cons (jp_var 5) (ja_cons (jp_var 6) ja_nil))) (jk_cons (j_callB (jc_maxS rfl) T.z_max (ja_cons (jp_var 5) (ja_cons (jp_var 6) ja_nil))) jk_nil))))))) (jb_one (js_retV 3)))))))

abbrev N_Plays : List Str := ["self", "players", "wins", "rows", "one", "games", "pair", "other"]
theorem sc_Plays : FnScope N_Plays ["self", "players", "wins"] (defScope (inClass (top 21) 0)) := ⟨rfl, rfl, rfl, by decide +kernel, rfl, by decide +kernel, by decide +kernel⟩
theorem ok_Plays {f : Addr} {fd : FuncData} (F : Fun K "__init__" "Plays.__init__" (inClass (top 21) 0) f fd) (T : Txt K mg cm fIt) (c_are_pairs : Cal P w K mg base 2 "are_pairs" (spP cm Φ_are_pairs 2)) (c_are_players : Cal P w K mg base 2 "are_players" (spP cm Φ_are_players 1)) (c_games_of : Cal P w K mg base 1 "games_of" (spP cm Φ_games_of 2)) : FnOk P w K mg base CX0 3 f fd ["self", "players", "wins"] (spI cm 0 Φ_Plays 3) := def_okI F sc_Plays fun q f cdv A outer s H E hr => by
  have sc := sc_Plays
  have hu := hu_of hr
  have hu0 : _ < cLine := Nat.lt_of_le_of_lt (Nat.le_add_right _ 64) hr.units
  have hu64 := hr.units
  exact (jt0_cons (js_if (jt_not (jt_val (j_cl c_are_players hr (by decide) (jk_cons (j_var 1) jk_nil)))) (jb_one js_no) jb_nil) (jt0_cons (js_set2Dc' (i := 3) [("one", 4)] rfl sc.nd (ji_seq (j_callB (jc_sortL hu64) T.z_sorted (ja_cons (jp_var 1) ja_nil))) (show BlkOk N_Plays (defScope (inClass (top 21) 0)) _ _ from by constructor <;> decide +kernel) (fun _ _ _ _ _ => (jg_name 4 sc.nd)) (fun _ _ _ _ _ => (jp_var 4)) (fun _ _ _ _ _ => j_dk0)) (jt0_cons (js_if (jt_lend 3 (jt_not (jt_val (j_cl c_are_pairs hr (by decide) (jk_cons (j_var 3) (jk_cons (j_var 2) jk_nil)))))) (jb_one js_no) jb_nil) (jt0_cons (js_set (i := 5) sc.nd (j_lend 3 (j_cl c_games_of hr (by decide) (jk_cons (j_var 3) (jk_cons (j_var 2) jk_nil))))) (jt0_cons (js_fz 5 (js_forD PassesOwn.never rfl (jd_keys (v_var 5)) (jg_name 6 sc.nd) (jb_one (js_if (jt_cmp jo_iGt (jp (j_dget hu (jp_var 5) (jp_var 6))) (jp j_int)) (jb_one js_no) jb_nil)))) (jt0_cons (js_forD PassesOwn.never rfl (jd_keys (v_var 5)) (jg_name 6 sc.nd) (jb_one (js_if (jt_cmp jo_eq (jp (j_dget hu (jp_var 5) (jp_var 6))) (jp j_int)) (jb_one js_no) jb_nil))) (jt0_cons (js_for PassesOwn.never rfl (ji_seq (j_var 2)) (jg_tup rfl (jgs_cons (jg_name 4 sc.nd) (jgs_cons (jg_name 7 sc.nd) jgs_nil))) (jb_one (js_st2 3 hu j_bl (jp_var 4) (jp_var 7)))) (jt0_fz 3 (by decide) (jt0_fld T.cl T.f_rows (j_var 3))))))))))

abbrev N_players : List Str := ["self"]
theorem sc_players : FnScope N_players ["self"] (defScope (inClass (top 21) 5)) := ⟨rfl, rfl, rfl, by decide +kernel, rfl, by decide +kernel, by decide +kernel⟩
theorem ok_players {f : Addr} {fd : FuncData} (F : Fun K "players" "Plays.players" (inClass (top 21) 5) f fd) (T : Txt K mg cm fIt)  : FnOk P w K mg base CX0 1 f fd ["self"] (spP cm Φ_players 1) := def_ok F sc_players fun q f cdv A outer s H E hr => by
  have sc := sc_players
  have hu := hu_of hr
  have hu0 : _ < cLine := Nat.lt_of_le_of_lt (Nat.le_add_right _ 64) hr.units
  have hu64 := hr.units
  exact (jb_one (js_ret (j_callTy (jc_lstD rfl) T.z_list (ja_cons (jp (j_fld T.cl T.f_rows (jp_var 0))) ja_nil))))

abbrev N_wins : List Str := ["self", "one", "other"]
theorem sc_wins : FnScope N_wins ["self"] (defScope (inClass (top 21) 6)) := ⟨rfl, rfl, rfl, by decide +kernel, rfl, by decide +kernel, by decide +kernel⟩
theorem ok_wins {f : Addr} {fd : FuncData} (F : Fun K "wins" "Plays.wins" (inClass (top 21) 6) f fd) (T : Txt K mg cm fIt)  : FnOk P w K mg base CX0 1 f fd ["self"] (spP cm Φ_wins 1) := def_ok F sc_wins fun q f cdv A outer s H E hr => by
  have sc := sc_wins
  have hu := hu_of hr
  have hu0 : _ < cLine := Nat.lt_of_le_of_lt (Nat.le_add_right _ 64) hr.units
  have hu64 := hr.units
  exact (jb_one (js_ret (j_lc2D [("one", 1), ("other", 2)] [2] rfl sc.nd (jd_keys (v_fld T.cl T.f_rows (v_var 0))) (show BlkOk N_wins (defScope (inClass (top 21) 6)) _ _ from by constructor <;> decide +kernel) (by decide) (fun _ _ _ _ _ => (jg_name 1 sc.nd)) (fun _ _ _ _ _ => jts_nil) (fun _ _ _ _ _ => (ji_seq (j_callB (jc_sortD rfl) T.z_sorted (ja_cons (jp (j_dget hu (jp (j_fld T.cl T.f_rows (jp_var 0))) (jp_var 1))) ja_nil)))) (fun _ _ _ _ _ => (jg_name 2 sc.nd)) (fun _ _ _ _ _ => jts_nil) (fun _ _ _ _ _ => (j_tup (jk_cons (j_var 1) (jk_cons (j_var 2) jk_nil)))))))

abbrev N_turned : List Str := ["self", "one", "other"]
theorem sc_turned : FnScope N_turned ["self"] (defScope (inClass (top 21) 14)) := ⟨rfl, rfl, rfl, by decide +kernel, rfl, by decide +kernel, by decide +kernel⟩
theorem ok_turned {f : Addr} {fd : FuncData} (F : Fun K "turned" "Plays.turned" (inClass (top 21) 14) f fd) (T : Txt K mg cm fIt) (c_Plays : CalI P w K mg base 3 "Plays" (cm 0) (spI cm 0 Φ_Plays 3)) (c_players : CalM P w K mg base 1 (cm 0) "players" (spP cm Φ_players 1)) (c_wins : CalM P w K mg base 1 (cm 0) "wins" (spP cm Φ_wins 1)) : FnOk P w K mg base CX0 5 f fd ["self"] (spP cm Φ_turned 1) := def_ok F sc_turned fun q f cdv A outer s H E hr => by
  have sc := sc_turned
  have hu := hu_of hr
  have hu0 : _ < cLine := Nat.lt_of_le_of_lt (Nat.le_add_right _ 64) hr.units
  have hu64 := hr.units
  exact (jb_one (js_ret (j_mk c_Plays hr (by decide) (jk_cons (j_mt0 T.cl c_players hr (by decide) (j_var 0)) (jk_cons (j_lc [("one", 1), ("other", 2)] rfl sc.nd (ji_seq (j_mt0 T.cl c_wins hr (by decide) (j_var 0))) (show BlkOk N_turned (defScope (inClass (top 21) 14)) _ _ from by constructor <;> decide +kernel) (fun _ _ _ _ _ => (jg_tup rfl (jgs_cons (jg_name 1 sc.nd) (jgs_cons (jg_name 2 sc.nd) jgs_nil)))) (fun _ _ _ _ _ => jts_nil) (fun _ _ _ _ _ => (j_tup (jk_cons (j_var 2) (jk_cons (j_var 1) jk_nil))))) jk_nil)))))

abbrev N_scores : List Str := ["plays", "one"]
theorem sc_scores : FnScope N_scores ["plays"] (defScope (top 2)) := ⟨rfl, rfl, rfl, by decide +kernel, rfl, by decide +kernel, by decide +kernel⟩
theorem ok_scores {f : Addr} {fd : FuncData} (F : Fun K "scores" "scores" (top 2) f fd) (T : Txt K mg cm fIt) {fdI : FuncData} {psI : List Str} (c_iter : FnN P w K mg base 1 fIt fdI psI (spIt (cm 0) "rows")) (b_iter : L2.Binds K fdI psI []) : FnOk P w K mg base CX0 2 f fd ["plays"] (spP cm Φ_scores 1) := def_ok F sc_scores fun q f cdv A outer s H E hr => by
  have sc := sc_scores
  have hu := hu_of hr
  have hu0 : _ < cLine := Nat.lt_of_le_of_lt (Nat.le_add_right _ 64) hr.units
  have hu64 := hr.units
  exact (jb_one (js_ret (j_dcD [("one", 1)] rfl sc.nd (jd_own T.it T.itF c_iter (hr.mono (by decide)) b_iter (v_var 0)) (show BlkOk N_scores (defScope (top 2)) _ _ from by constructor <;> decide +kernel) (fun _ _ _ _ _ => (jg_name 1 sc.nd)) (fun _ _ _ _ _ => jts_nil) (fun _ _ _ _ _ => (jp_var 1)) (fun _ _ _ _ _ => (j_callB jc_lenD T.z_len (ja_cons (jp (j_dget hu (jp (j_fld T.cl T.f_rows (jp_var 0))) (jp_var 1))) ja_nil))))))

abbrev N_score_list : List Str := ["plays", "one"]
theorem sc_score_list : FnScope N_score_list ["plays"] (defScope (top 3)) := ⟨rfl, rfl, rfl, by decide +kernel, rfl, by decide +kernel, by decide +kernel⟩
theorem ok_score_list {f : Addr} {fd : FuncData} (F : Fun K "score_list" "score_list" (top 3) f fd) (T : Txt K mg cm fIt) {fdI : FuncData} {psI : List Str} (c_iter : FnN P w K mg base 1 fIt fdI psI (spIt (cm 0) "rows")) (b_iter : L2.Binds K fdI psI []) : FnOk P w K mg base CX0 2 f fd ["plays"] (spP cm Φ_score_list 1) := def_ok F sc_score_list fun q f cdv A outer s H E hr => by
  have sc := sc_score_list
  have hu := hu_of hr
  have hu0 : _ < cLine := Nat.lt_of_le_of_lt (Nat.le_add_right _ 64) hr.units
  have hu64 := hr.units
  exact (jb_one (js_ret (j_callB (jc_sortL hu64) T.z_sorted (ja_cons (jp (j_lcD [("one", 1)] rfl sc.nd (jd_own T.it T.itF c_iter (hr.mono (by decide)) b_iter (v_var 0)) (show BlkOk N_score_list (defScope (top 3)) _ _ from by constructor <;> decide +kernel) (fun _ _ _ _ _ => (jg_name 1 sc.nd)) (fun _ _ _ _ _ => jts_nil) (fun _ _ _ _ _ => (j_callB jc_lenD T.z_len (ja_cons (jp (j_dget hu (jp (j_fld T.cl T.f_rows (jp_var 0))) (jp_var 1))) ja_nil))))) ja_nil))))

abbrev N__law_spring : List Str := ["script", "turn", "cell", "mix", "at", "one"]
theorem sc__law_spring : FnScope N__law_spring ["script", "turn"] (defScope (top 23)) := ⟨rfl, rfl, rfl, by decide +kernel, rfl, by decide +kernel, by decide +kernel⟩
theorem ok__law_spring {f : Addr} {fd : FuncData} (F : Fun K "_law_spring" "_law_spring" (top 23) f fd) (T : Txt K mg cm fIt)  : FnOk P w K mg base CX0 1 f fd ["script", "turn"] (spR cm K Φ__law_spring 2) := def_okR F sc__law_spring fun a B ns hS q f cdv A outer s H E hr => by
  have sc := sc__law_spring
  have hu := hu_of hr
  have hu0 : _ < cLine := Nat.lt_of_le_of_lt (Nat.le_add_right _ 64) hr.units
  have hu64 := hr.units
  exact (jb_cons (js_par 2 3 rfl sc.nd (jk_cons (j_ifExp (jt_cmp jo_iLt (jp_var 1) (jp (j_rawLen 0 hS T.z_len))) (j_rawIx 0 hS (j_var 1)) (j_bin jo_iAdd (jp (j_bin jo_iMul (jp j_int) (jp_var 1))) (jp (j_rawLen 0 hS T.z_len)))) (jk_cons (j_bin jo_iAdd (jp j_int) (jp (j_bin jo_iMul (jp j_int) (jp_var 1)))) jk_nil))) (jb_cons (js_for PassesOwn.never rfl (ji_enum T.z_enumerate (jk_cons (j_rawTake 0 hS) jk_nil)) (jg_tup rfl (jgs_cons (jg_name 4 sc.nd) (jgs_cons (jg_name 5 sc.nd) jgs_nil))) (jb_one (js_set (i := 3) sc.nd (j_bin jo_iMod (jp (j_callTy jc_int T.z_int (ja_cons (jp (j_bin jo_iAdd (jp (j_bin jo_iAdd (jp (j_bin jo_iAdd (jp (j_bin jo_iMul (jp_var 3) (jp j_int))) (jp_var 5))) (jp (j_bin jo_iMul (jp j_int) (jp_var 4))))) (jp j_int))) ja_nil))) (jp j_int))))) (jb_one (js_ret (j_lst (jk_cons (j_ifExp (jt_cmp jo_iGe (jp_var 2) (jp (j_bin jo_iPow (jp j_int) (jp j_int)))) (j_var 2) j_int) (jk_cons (j_bin jo_iMod (jp (j_callTy jc_int T.z_int (ja_cons (jp (j_bin jo_iAdd (jp_var 3) (jp (j_bin jo_iMul (jp_var 2) (jp j_int))))) ja_nil))) (jp j_int)) (jk_cons j_int jk_nil))))))))

abbrev N__law_draw : List Str := ["spring", "many", "digit", "mixed"]
theorem sc__law_draw : FnScope N__law_draw ["spring", "many"] (defScope (top 24)) := ⟨rfl, rfl, rfl, by decide +kernel, rfl, by decide +kernel, by decide +kernel⟩
theorem ok__law_draw {f : Addr} {fd : FuncData} (F : Fun K "_law_draw" "_law_draw" (top 24) f fd) (T : Txt K mg cm fIt)  : FnOk P w K mg base CX0 1 f fd ["spring", "many"] (spS cm Φ__law_draw 2) := def_okS F sc__law_draw fun q f cdv A outer s H E hr => by
  have sc := sc__law_draw
  have hu := hu_of hr
  have hu0 : _ < cLine := Nat.lt_of_le_of_lt (Nat.le_add_right _ 64) hr.units
  have hu64 := hr.units
  exact (jb_cons (js_if (jt_cmp jo_iGt (jp (j_spr 0)) (jp j_int)) (jb_cons (js_set (i := 2) sc.nd (j_bin jo_iMod (jp (j_callTy jc_int T.z_int (ja_cons (jp (j_spr 0)) ja_nil))) (jp_var 1))) (jb_cons (js_spr 0 (j_bin jo_iDiv (jp (j_spr 0)) (jp_var 1))) (jb_one (js_retV 2)))) jb_nil) (jb_cons (js_spr 0 (j_bin jo_iAdd (jp (j_spr 0)) (jp j_int))) (jb_cons (js_set (i := 3) sc.nd (j_bin jo_iMod (jp (j_bin jo_iPow (jp (j_callTy jc_int T.z_int (ja_cons (jp (j_bin jo_iAdd (jp (j_bin jo_iAdd (jp (j_spr 0)) (jp (j_bin jo_iMul (jp j_int) (jp (j_spr 0)))))) (jp j_int))) ja_nil))) (jp j_int))) (jp j_int))) (jb_one (js_ret (j_bin jo_iMod (jp (j_bin jo_iDiv (jp (j_bin jo_iMod (jp (j_bin jo_iPow (jp (j_callTy jc_int T.z_int (ja_cons (jp (j_bin jo_iAdd (jp (j_bin jo_iMul (jp_var 3) (jp j_int))) (jp (j_bin jo_iMul (jp j_int) (jp (j_spr 0)))))) ja_nil))) (jp j_int))) (jp j_int))) (jp j_int))) (jp_var 1)))))))

abbrev N__law_pick : List Str := ["spring", "some"]
theorem sc__law_pick : FnScope N__law_pick ["spring", "some"] (defScope (top 25)) := ⟨rfl, rfl, rfl, by decide +kernel, rfl, by decide +kernel, by decide +kernel⟩
theorem ok__law_pick {f : Addr} {fd : FuncData} (F : Fun K "_law_pick" "_law_pick" (top 25) f fd) (T : Txt K mg cm fIt) (c__law_draw : Cal P w K mg base 1 "_law_draw" (spS cm Φ__law_draw 2)) : FnOk P w K mg base CX0 2 f fd ["spring", "some"] (spS cm Φ__law_pick 2) := def_okS F sc__law_pick fun q f cdv A outer s H E hr => by
  have sc := sc__law_pick
  have hu := hu_of hr
  have hu0 : _ < cLine := Nat.lt_of_le_of_lt (Nat.le_add_right _ 64) hr.units
  have hu64 := hr.units
  exact (jb_one (js_ret (j_ix jx_lst (jp_var 1) (jp (j_clS c__law_draw hr (by decide) (jq_spr 0 (jq_cons (j_callB jc_lenS T.z_len (ja_cons (jp_var 1) ja_nil)) jq_nil)))))))

abbrev N__law_mixed : List Str := ["spring", "some", "left", "k"]
theorem sc__law_mixed : FnScope N__law_mixed ["spring", "some"] (defScope (top 26)) := ⟨rfl, rfl, rfl, by decide +kernel, rfl, by decide +kernel, by decide +kernel⟩
theorem ok__law_mixed {f : Addr} {fd : FuncData} (F : Fun K "_law_mixed" "_law_mixed" (top 26) f fd) (T : Txt K mg cm fIt) (c__law_draw : Cal P w K mg base 1 "_law_draw" (spS cm Φ__law_draw 2)) : FnOk P w K mg base CX0 2 f fd ["spring", "some"] (spS cm Φ__law_mixed 2) := def_okS F sc__law_mixed fun q f cdv A outer s H E hr => by
  have sc := sc__law_mixed
  have hu := hu_of hr
  have hu0 : _ < cLine := Nat.lt_of_le_of_lt (Nat.le_add_right _ 64) hr.units
  have hu64 := hr.units
  exact (jb_cons (js_set (i := 2) sc.nd (j_callTy jc_lstS T.z_list (ja_cons (jp_var 1) ja_nil))) (jb_one (js_retPop 2 [("k", 3)] rfl sc.nd (ji_range1 rfl T.z_range (ja_cons (jp (j_callB jc_lenS T.z_len (ja_cons (jp_var 2) ja_nil))) ja_nil)) (show BlkOk N__law_mixed (defScope (top 26)) _ _ from by constructor <;> decide +kernel) (fun _ _ _ _ _ => (jg_name 3 sc.nd)) (fun _ _ _ _ _ => (j_clS c__law_draw hr (by decide) (jq_spr 0 (jq_cons (j_callB jc_lenS T.z_len (ja_cons (jp_var 2) ja_nil)) jq_nil)))))))

abbrev N__law_same : List Str := ["found", "due", "one", "other", "is_alike"]
theorem sc__law_same : FnScope N__law_same ["found", "due"] (defScope (top 27)) := ⟨rfl, rfl, rfl, by decide +kernel, rfl, by decide +kernel, by decide +kernel⟩
theorem ok__law_same {f : Addr} {fd : FuncData} (F : Fun K "_law_same" "_law_same" (top 27) f fd) (T : Txt K mg cm fIt)  (hm : mg "_law_same" = some (.ref f)) (kp : PySem.W.keepIn K (.ref f) = true) (b : L2.Binds K fd ["found", "due"] []) : ∀ n, FnOk P w K mg base CX0 n f fd ["found", "due"] (spP cm (Φ__law_same n) 2)
  | 0 => ⟨(fun vs H Q E h => by obtain ⟨_, _, _, _, _, _, _, _, h, _⟩ := h; cases h), (fun A outer s H args us vs Q E _ _ _ _ h => by obtain ⟨_, _, _, _, _, _, _, _, h, _⟩ := h; cases h)⟩
  | n + 1 => def_ok F sc__law_same fun q f' cdv A outer s H E hr => by
    have c__law_same : Cal P w K mg base n "_law_same" (spP cm (Φ__law_same n) 2) := ⟨⟨f, fd, _, ok__law_same F T hm kp b n, hm, kp, b⟩⟩
    have sc := sc__law_same
    have hu := hu_of hr
    have hu64 := hr.units
    exact (jb_cons (js_if (jt_val (j_isi "dict" (jp_var 1) T.z_isinstance T.z_dict)) (jb_one (js_ret (j_and (j_isi "dict" (jp_var 0) T.z_isinstance T.z_dict) (j_one (j_cl c__law_same hr (Nat.le_refl _) (jk_cons (j_itL rfl (jp_var 0) T.z_list) (jk_cons (j_itL rfl (jp_var 1) T.z_list) jk_nil))))))) jb_nil) (jb_cons (js_if (jt_val (j_isiT ["list", "tuple"] (jp_var 1) T.z_isinstance (pa_ty (pa_ty pa_nil T.z_tuple) T.z_list))) (jb_cons (js_if (jt_w (jw_or (jt_cmp jo_ne (jp (j_isi "list" (jp_var 0) T.z_isinstance T.z_list)) (jp (j_isi "list" (jp_var 1) T.z_isinstance T.z_list))) (jw_or1 (jt_cmp jo_ne (jp (j_isi "tuple" (jp_var 0) T.z_isinstance T.z_tuple)) (jp (j_isi "tuple" (jp_var 1) T.z_isinstance T.z_tuple)))))) (jb_one (js_ret j_bl)) jb_nil) (jb_one (js_ret (j_and (j_cmp jo_eq (jp (j_callB jc_lenS T.z_len (ja_cons (jp_var 0) ja_nil))) (jp (j_callB jc_lenS T.z_len (ja_cons (jp_var 1) ja_nil)))) (j_one (j_callB (jc_all rfl) T.z_all (ja_cons (jp (j_lc [("one", 2), ("other", 3)] rfl sc.nd (ji_zipA T.z_zip (jk_cons (j_var 0) (jk_cons (j_var 1) jk_nil))) (show BlkOk N__law_same (defScope (top 27)) _ _ from by constructor <;> decide +kernel) (fun _ _ _ _ _ => (jg_tup rfl (jgs_cons (jg_name 2 sc.nd) (jgs_cons (jg_name 3 sc.nd) jgs_nil)))) (fun _ _ _ _ _ => jts_nil) (fun _ _ _ _ _ => (j_cl c__law_same hr (Nat.le_refl _) (jk_cons (j_var 2) (jk_cons (j_var 3) jk_nil)))))) ja_nil))))))) jb_nil) (jb_cons (js_set (i := 4) sc.nd (j_and (j_cmp jo_eq (jp (j_isi "bool" (jp_var 0) T.z_isinstance T.z_bool)) (jp (j_isi "bool" (jp_var 1) T.z_isinstance T.z_bool))) (j_one (j_cmp jo_eq (jp (j_isi "int" (jp_var 0) T.z_isinstance T.z_int)) (jp (j_isi "int" (jp_var 1) T.z_isinstance T.z_int)))))) (jb_cons (js_if (jt_w (jw_or (jt_val (j_isiT ["dict", "list", "tuple"] (jp_var 0) T.z_isinstance (pa_ty (pa_ty (pa_ty pa_nil T.z_tuple) T.z_list) T.z_dict))) (jw_or (jt_not (jt_val (j_var 4))) (jw_or1 (jt_cmp jo_ne (jp (j_isi "str" (jp_var 0) T.z_isinstance T.z_str)) (jp (j_isi "str" (jp_var 1) T.z_isinstance T.z_str))))))) (jb_one (js_ret j_bl)) jb_nil) (jb_one (js_ret (j_ifExp (jt_cmp jo_isN (jp_var 1) (jp j_non)) (j_cmp jo_isN (jp_var 0) (jp j_non)) (j_cmp jo_eq (jp_var 0) (jp_var 1)))))))))

abbrev N__law_b_names : List Str := ["spring", "many", "found", "name", "k", "sign"]
theorem sc__law_b_names : FnScope N__law_b_names ["spring", "many"] (defScope (top 28)) := ⟨rfl, rfl, rfl, by decide +kernel, rfl, by decide +kernel, by decide +kernel⟩
theorem ok__law_b_names {f : Addr} {fd : FuncData} (F : Fun K "_law_b_names" "_law_b_names" (top 28) f fd) (T : Txt K mg cm fIt) (c__law_draw : Cal P w K mg base 1 "_law_draw" (spS cm Φ__law_draw 2)) (c__law_pick : Cal P w K mg base 2 "_law_pick" (spS cm Φ__law_pick 2)) : FnOk P w K mg base CX0 3 f fd ["spring", "many"] (spS cm Φ__law_b_names 2) := def_okS F sc__law_b_names fun q f cdv A outer s H E hr => by
  have sc := sc__law_b_names
  have hu := hu_of hr
  have hu0 : _ < cLine := Nat.lt_of_le_of_lt (Nat.le_add_right _ 64) hr.units
  have hu64 := hr.units
  exact (jb_cons (js_set (i := 2) sc.nd j_dk0) (jb_cons (js_while 40 PassesOwn.never (jt_cmp jo_iLt (jp (j_callB jc_lenD T.z_len (ja_cons (jp_var 2) ja_nil))) (jp_var 1)) (jb_cons (js_set (i := 3) sc.nd (j_clS c__law_pick hr (by decide) (jq_spr 0 (jq_cons (j_callTy (jc_lstStr rfl) T.z_list (ja_cons (jp j_str) ja_nil)) jq_nil)))) (jb_cons (js_if (jt_w (jw_and (jt_truO 2) (jw_and1 (jt_cmp jo_eq (jp (j_clS c__law_draw hr (by decide) (jq_spr 0 (jq_cons j_int jq_nil)))) (jp j_int))))) (jb_one (js_set (i := 3) sc.nd (j_bin jo_sAdd (jp (j_sl jsl_str (jp (j_clS c__law_pick hr (by decide) (jq_spr 0 (jq_cons (j_callTy (jc_lstD rfl) T.z_list (ja_cons (jp_var 2) ja_nil)) jq_nil)))) jo_no (jo_so j_int))) (jp (j_clS c__law_pick hr (by decide) (jq_spr 0 (jq_cons (j_lst (jk_cons j_str (jk_cons j_str (jk_cons j_str (jk_cons j_str (jk_cons j_str jk_nil)))))) jq_nil))))))) jb_nil) (jb_cons (js_for PassesOwn.never rfl (ji_range1 rfl T.z_range (ja_cons (jp (j_clS c__law_draw hr (by decide) (jq_spr 0 (jq_cons j_int jq_nil)))) ja_nil)) (jg_name 4 sc.nd) (jb_one (js_set (i := 3) sc.nd (j_bin jo_sAdd (jp_var 3) (jp (j_clS c__law_pick hr (by decide) (jq_spr 0 (jq_cons (j_callTy (jc_lstStr rfl) T.z_list (ja_cons (jp j_str) ja_nil)) jq_nil)))))))) (jb_cons (js_set (i := 3) sc.nd (j_sl jsl_str (jp_var 3) jo_no (jo_so j_int))) (jb_cons (js_for PassesOwn.never rfl (ji_str j_str) (jg_name 5 sc.nd) (jb_one (js_if (jt_din hu (jp_var 3) (jp_var 2)) (jb_one (js_set (i := 3) sc.nd (j_bin jo_sAdd (jp (j_sl jsl_str (jp_var 3) jo_no (jo_so j_int))) (jp_var 5)))) jb_nil))) (jb_cons (js_set (i := 3) sc.nd (j_ifExp (jt_din hu (jp_var 3) (jp_var 2)) (j_bin jo_sAdd (jp j_str) (jp (j_callTy jc_str T.z_str (ja_cons (jp (j_callB jc_lenD T.z_len (ja_cons (jp_var 2) ja_nil))) ja_nil)))) (j_var 3))) (jb_one (js_stD 2 hu j_int (jp_var 3)))))))))) (jb_one (js_ret (j_callTy (jc_lstD rfl) T.z_list (ja_cons (jp_var 2) ja_nil))))))

abbrev N__law_b_shape : List Str := ["spring", "many", "manner", "rare", "cut", "found", "one", "other", "wins"]
theorem sc__law_b_shape : FnScope N__law_b_shape ["spring", "many"] (defScope (top 29)) := ⟨rfl, rfl, rfl, by decide +kernel, rfl, by decide +kernel, by decide +kernel⟩
theorem ok__law_b_shape {f : Addr} {fd : FuncData} (F : Fun K "_law_b_shape" "_law_b_shape" (top 29) f fd) (T : Txt K mg cm fIt) (c__law_draw : Cal P w K mg base 1 "_law_draw" (spS cm Φ__law_draw 2)) (c__law_pick : Cal P w K mg base 2 "_law_pick" (spS cm Φ__law_pick 2)) : FnOk P w K mg base CX0 3 f fd ["spring", "many"] (spS cm Φ__law_b_shape 2) := def_okS F sc__law_b_shape fun q f cdv A outer s H E hr => by
  have sc := sc__law_b_shape
  have hu := hu_of hr
  have hu0 : _ < cLine := Nat.lt_of_le_of_lt (Nat.le_add_right _ 64) hr.units
  have hu64 := hr.units
  exact (jb_cons (js_par3 2 3 4 rfl sc.nd (jk_cons (j_clS c__law_draw hr (by decide) (jq_spr 0 (jq_cons j_int jq_nil))) (jk_cons (j_clS c__law_pick hr (by decide) (jq_spr 0 (jq_cons (j_lst (jk_cons j_int (jk_cons j_int (jk_cons j_int (jk_cons j_int jk_nil))))) jq_nil))) (jk_cons (j_bin jo_iAdd (jp j_int) (jp (j_clS c__law_draw hr (by decide) (jq_spr 0 (jq_cons (j_var 1) jq_nil))))) jk_nil)))) (jb_cons (js_set (i := 5) sc.nd (j_lst jk_nil)) (jb_cons (js_for PassesOwn.never rfl (ji_range1 rfl T.z_range (ja_cons (jp_var 1) ja_nil)) (jg_name 6 sc.nd) (jb_one (js_for PassesOwn.never rfl (ji_range2 rfl T.z_range (ja_cons (jp (j_bin jo_iAdd (jp_var 6) (jp j_int))) (ja_cons (jp_var 1) ja_nil))) (jg_name 7 sc.nd) (jb_cons (js_set (i := 8) sc.nd j_bl) (jb_cons (js_if (jt_cmp jo_lIn (jp_var 2) (jp (j_lst (jk_cons j_int (jk_cons j_int jk_nil))))) (jb_one (js_set (i := 8) sc.nd (j_cmp jo_iGt (jp (j_clS c__law_draw hr (by decide) (jq_spr 0 (jq_cons (j_ifExp (jt_cmp jo_eq (jp_var 2) (jp j_int)) (j_var 3) j_int) jq_nil)))) (jp j_int)))) jb_nil) (jb_cons (js_if (jt_cmp jo_eq (jp_var 2) (jp j_int)) (jb_one (js_set (i := 8) sc.nd (j_cmp jo_iLe (jp (j_bin jo_iMul (jp j_int) (jp (j_bin jo_iSub (jp_var 7) (jp_var 6))))) (jp_var 1)))) jb_nil) (jb_cons (js_if (jt_cmp jo_eq (jp_var 2) (jp j_int)) (jb_one (js_set (i := 8) sc.nd (j_orV (j_chain jo_iLt jo_iLe (jp_var 6) (jp_var 4) (jp_var 7)) (j_one (j_cmp jo_iGt (jp (j_clS c__law_draw hr (by decide) (jq_spr 0 (jq_cons j_int jq_nil)))) (jp j_int)))))) jb_nil) (jb_cons (js_if (jt_cmp jo_eq (jp_var 2) (jp j_int)) (jb_one (js_set (i := 8) sc.nd (j_cmp jo_iLt (jp (j_bin jo_iSub (jp_var 7) (jp_var 6))) (jp_var 4)))) jb_nil) (jb_one (js_mu 5 PySem.F.plainAttrs_list PySem.F.slot_list_append PySem.F.type_list_append mt_append mok_app (jk_cons (j_ifExp (jt_val (j_var 8)) (j_tup (jk_cons (j_var 6) (jk_cons (j_var 7) jk_nil))) (j_tup (jk_cons (j_var 7) (jk_cons (j_var 6) jk_nil)))) jk_nil))))))))))) (jb_one (js_retV 5)))))

abbrev N__law_b_drawn : List Str := ["spring", "many", "names", "one", "other"]
theorem sc__law_b_drawn : FnScope N__law_b_drawn ["spring", "many"] (defScope (top 30)) := ⟨rfl, rfl, rfl, by decide +kernel, rfl, by decide +kernel, by decide +kernel⟩
theorem ok__law_b_drawn {f : Addr} {fd : FuncData} (F : Fun K "_law_b_drawn" "_law_b_drawn" (top 30) f fd) (T : Txt K mg cm fIt) (c__law_b_names : Cal P w K mg base 3 "_law_b_names" (spS cm Φ__law_b_names 2)) (c__law_b_shape : Cal P w K mg base 3 "_law_b_shape" (spS cm Φ__law_b_shape 2)) (c__law_mixed : Cal P w K mg base 2 "_law_mixed" (spS cm Φ__law_mixed 2)) : FnOk P w K mg base CX0 4 f fd ["spring", "many"] (spS cm Φ__law_b_drawn 2) := def_okS F sc__law_b_drawn fun q f cdv A outer s H E hr => by
  have sc := sc__law_b_drawn
  have hu := hu_of hr
  have hu0 : _ < cLine := Nat.lt_of_le_of_lt (Nat.le_add_right _ 64) hr.units
  have hu64 := hr.units
  exact (jb_cons (js_set (i := 2) sc.nd (j_clS c__law_b_names hr (by decide) (jq_spr 0 (jq_cons (j_var 1) jq_nil)))) (jb_fz 2 (jb_one (js_ret (j_tup (jk_cons (j_clS c__law_mixed hr (by decide) (jq_spr 0 (jq_cons (j_var 2) jq_nil))) (jk_cons (j_clS c__law_mixed hr (by decide) (jq_spr 0 (jq_cons (j_lc [("one", 3), ("other", 4)] rfl sc.nd (ji_seq (j_clS c__law_b_shape hr (by decide) (jq_spr 0 (jq_cons (j_var 1) jq_nil)))) (show BlkOk N__law_b_drawn (defScope (top 30)) _ _ from by constructor <;> decide +kernel) (fun _ _ _ _ _ => (jg_tup rfl (jgs_cons (jg_name 3 sc.nd) (jgs_cons (jg_name 4 sc.nd) jgs_nil)))) (fun _ _ _ _ _ => jts_nil) (fun _ _ _ _ _ => (j_tup (jk_cons (j_ix jx_lst (jp_var 2) (jp_var 3)) (jk_cons (j_ix jx_lst (jp_var 2) (jp_var 4)) jk_nil))))) jq_nil))) jk_nil)))))))

abbrev N__law_b_rows : List Str := ["players", "wins", "found", "one", "other", "pair"]
theorem sc__law_b_rows : FnScope N__law_b_rows ["players", "wins"] (defScope (top 31)) := ⟨rfl, rfl, rfl, by decide +kernel, rfl, by decide +kernel, by decide +kernel⟩
theorem ok__law_b_rows {f : Addr} {fd : FuncData} (F : Fun K "_law_b_rows" "_law_b_rows" (top 31) f fd) (T : Txt K mg cm fIt)  : FnOk P w K mg base CX0 1 f fd ["players", "wins"] (spP cm Φ__law_b_rows 2) := def_ok F sc__law_b_rows fun q f cdv A outer s H E hr => by
  have sc := sc__law_b_rows
  have hu := hu_of hr
  have hu0 : _ < cLine := Nat.lt_of_le_of_lt (Nat.le_add_right _ 64) hr.units
  have hu64 := hr.units
  exact (jb_cons (js_set2Dict (i := 2) [("one", 3)] rfl sc.nd (ji_seq (j_callB (jc_sortL hu64) T.z_sorted (ja_cons (jp_var 0) ja_nil))) (show BlkOk N__law_b_rows (defScope (top 31)) _ _ from by constructor <;> decide +kernel) (fun _ _ _ _ _ => (jg_name 3 sc.nd)) (fun _ _ _ _ _ => (jp_var 3)) (fun _ _ _ _ _ => (j_lst jk_nil)) T.z_dict) (jb_cons (js_for PassesOwn.never rfl (ji_seq (j_callB (jc_sortL hu64) T.z_sorted (ja_cons (jp (j_lc [("pair", 5)] rfl sc.nd (ji_seq (j_var 1)) (show BlkOk N__law_b_rows (defScope (top 31)) _ _ from by constructor <;> decide +kernel) (fun _ _ _ _ _ => (jg_name 5 sc.nd)) (fun _ _ _ _ _ => jts_nil) (fun _ _ _ _ _ => (j_callTy jc_tup T.z_tuple (ja_cons (jp_var 5) ja_nil))))) ja_nil))) (jg_tup rfl (jgs_cons (jg_name 3 sc.nd) (jgs_cons (jg_name 4 sc.nd) jgs_nil))) (jb_one (js_mu2 2 hu PySem.F.plainAttrs_list PySem.F.slot_list_append PySem.F.type_list_append mt_append mok_app (jp_var 3) (jk_cons (j_var 4) jk_nil)))) (jb_fz 2 (jb_one (js_retV 2)))))

abbrev N_law : List Str := ["script", "turn", "spring", "players", "wins", "rows", "plays", "due", "one", "told"]
theorem sc_law : FnScope N_law ["script"] (defScope (top 35)) := ⟨rfl, rfl, rfl, by decide +kernel, rfl, by decide +kernel, by decide +kernel⟩
noncomputable def g_law (a : Addr) (B : Hp) (ns : List Int) : FS := (sSeq (sFor (fRng1 (aCons (pE (fC (.int 5))) aNil)) (.nm 1) (sScope 2 (fClR a B ns 0 Φ__law_spring 2 (kCons (fVar 1) aNil)) (sSeq (sUnp [3, 4] (fClS Φ__law_b_drawn 2 (qSpr 2 (qCons (fIf (tEb (fBin iGt (pVar 1) (pE (fC (.int 0))))) (fClS Φ__law_pick 2 (qSpr 2 (qCons (fLst (kCons (fC (.int 1)) (kCons (fC (.int 2)) (kCons (fC (.int 3)) (kCons (fC (.int 5)) (kCons (fC (.int 8)) (kCons (fC (.int 12)) aNil))))))) qNil))) (fClS Φ__law_pick 2 (qSpr 2 (qCons (fLst (kCons (fC (.int 20)) (kCons (fC (.int 31)) aNil))) qNil)))) qNil)))) (sSeq (sUnp [5, 6] (fTup (kCons (fCl Φ__law_b_rows 2 (kCons (fVar 3) (kCons (fVar 4) aNil))) (kCons (fMk 0 Φ_Plays 3 (kCons (fApp bLstS (aCons (pVar 3) aNil)) (kCons (fApp bLstS (aCons (pVar 4) aNil)) aNil))) aNil)))) (sSeq (sSet 7 (fApp bDict (aCons (pE (fComp (fItems (fApp bSortD (aCons (pVar 5) aNil))) (.nm 8) [8] tYes' (fTup (kCons (fVar 8) (kCons (fApp bLenS (aCons (pE (fDget (pVar 5) (pVar 8))) aNil)) aNil))))) aNil))) (sFz 7 (sSeq (sSet 9 (fCl Φ_scores 1 (kCons (fVar 6) aNil))) (sSeq (sIf (tOr' (tLend 9 (tNt (tEb (fCl (Φ__law_same 6) 2 (kCons (fLst (kCons (fVar 9) (kCons (fCl Φ_score_list 1 (kCons (fVar 6) aNil)) aNil))) (kCons (fLst (kCons (fVar 7) (kCons (fSoV (pVar 7)) aNil))) aNil)))))) (tEb (fBin gNe (pE (fApp bSum (aCons (pE (fCl Φ_score_list 1 (kCons (fVar 6) aNil))) aNil))) (pE (fApp bLenS (aCons (pVar 4) aNil)))))) (sRet (fC (.bl false))) sNx) (sSeq (sSt 9 puD (pE (fC (.str "late"))) (fC (.int 0))) (sSeq (sMuE muApp (fCl Φ_score_list 1 (kCons (fVar 6) aNil)) (kCons (fC (.int 0)) aNil)) (sSeq (sIf (tNt (tEb (fCl (Φ__law_same 6) 2 (kCons (fLst (kCons (fClK Φ_scores 1 [0] (kCons (fVar 6) aNil)) (kCons (fClK Φ_score_list 1 [0] (kCons (fVar 6) aNil)) aNil))) (kCons (fLst (kCons (fVar 7) (kCons (fSoV (pVar 7)) aNil))) aNil))))) (sRet (fC (.bl false))) sNx) (sIf (tEb (fDeq true (fCl Φ_scores 1 (kCons (fMt 0 "turned" Φ_turned 1 (fVar 6) aNil) aNil)) (fApp bDict (aCons (pE (fCompD (dKeys (vVar 7)) (.nm 8) [8] tYes' (fTup (kCons (fVar 8) (kCons (fBin iSub (pE (fBin iSub (pE (fApp bLenD (aCons (pVar 5) aNil))) (pE (fC (.int 1))))) (pE (fDget (pVar 7) (pVar 8)))) aNil))))) aNil)))) (sRet (fC (.bl false))) sNx)))))))))))) (sRet (fBin (gEqD false) (pE (fCl Φ_score_list 1 (kCons (fMk 0 Φ_Plays 3 (kCons (fLst (kCons (fC (.str "a")) (kCons (fC (.str "b")) (kCons (fC (.str "c")) aNil)))) (kCons (fLst (kCons (fTup (kCons (fC (.str "a")) (kCons (fC (.str "b")) aNil))) (kCons (fTup (kCons (fC (.str "b")) (kCons (fC (.str "c")) aNil))) (kCons (fTup (kCons (fC (.str "c")) (kCons (fC (.str "a")) aNil))) aNil)))) aNil))) aNil))) (pE (fLst (kCons (fC (.int 1)) (kCons (fC (.int 1)) (kCons (fC (.int 1)) aNil))))))))
theorem ok_law {f : Addr} {fd : FuncData} (F : Fun K "law" "law" (top 35) f fd) (T : Txt K mg cm fIt) (c_Plays : CalI P w K mg base 3 "Plays" (cm 0) (spI cm 0 Φ_Plays 3)) (c__law_b_drawn : Cal P w K mg base 4 "_law_b_drawn" (spS cm Φ__law_b_drawn 2)) (c__law_b_rows : Cal P w K mg base 1 "_law_b_rows" (spP cm Φ__law_b_rows 2)) (c__law_pick : Cal P w K mg base 2 "_law_pick" (spS cm Φ__law_pick 2)) (c__law_same : Cal P w K mg base 6 "_law_same" (spP cm (Φ__law_same 6) 2)) (c__law_spring : Cal P w K mg base 1 "_law_spring" (spR cm K Φ__law_spring 2)) (c_turned : CalM P w K mg base 5 (cm 0) "turned" (spP cm Φ_turned 1)) (c_score_list : Cal P w K mg base 2 "score_list" (spP cm Φ_score_list 1)) (ck_score_list_plays : CalK P w K mg base 2 "score_list" ["plays"] (kvL [0]) (spP cm Φ_score_list 1)) (c_scores : Cal P w K mg base 2 "scores" (spP cm Φ_scores 1)) (ck_scores_plays : CalK P w K mg base 2 "scores" ["plays"] (kvL [0]) (spP cm Φ_scores 1)) (hfin : ∀ (a : Addr) (B : Hp) (ns : List Int), ns.length ≤ 63 → ∃ e', g_law a B ns ⟨none, startI a 10 [], B⟩ = some (.rt (fz (.bl true)), e')) : FnOk P w K mg base CX0 7 f fd ["script"] (spL K) := def_okL F sc_law (cm := cm) (g := g_law) (fun a B ns hS q f cdv A outer s H E hr => by
  have sc := sc_law
  have hu := hu_of hr
  have hu0 : _ < cLine := Nat.lt_of_le_of_lt (Nat.le_add_right _ 64) hr.units
  have hu64 := hr.units
  exact (jb_cons (js_for PassesOwn.never rfl (ji_range1 rfl T.z_range (ja_cons (jp j_int) ja_nil)) (jg_name 1 sc.nd) (jb_scope (i := 2) (js_set (i := 2) sc.nd (j_clR 0 hS c__law_spring hr (by decide) (jk_cons (j_var 1) jk_nil))) (jb_cons (js_unp (jg_tup rfl (jgs_cons (jg_name 3 sc.nd) (jgs_cons (jg_name 4 sc.nd) jgs_nil))) (j_clS c__law_b_drawn hr (by decide) (jq_spr 2 (jq_cons (j_ifExp (jt_cmp jo_iGt (jp_var 1) (jp j_int)) (j_clS c__law_pick hr (by decide) (jq_spr 2 (jq_cons (j_lst (jk_cons j_int (jk_cons j_int (jk_cons j_int (jk_cons j_int (jk_cons j_int (jk_cons j_int jk_nil))))))) jq_nil))) (j_clS c__law_pick hr (by decide) (jq_spr 2 (jq_cons (j_lst (jk_cons j_int (jk_cons j_int jk_nil))) jq_nil)))) jq_nil)))) (jb_cons (js_unp (jg_tup rfl (jgs_cons (jg_name 5 sc.nd) (jgs_cons (jg_name 6 sc.nd) jgs_nil))) (j_tup (jk_cons (j_cl c__law_b_rows hr (by decide) (jk_cons (j_var 3) (jk_cons (j_var 4) jk_nil))) (jk_cons (j_mk c_Plays hr (by decide) (jk_cons (j_callTy jc_lstS T.z_list (ja_cons (jp_var 3) ja_nil)) (jk_cons (j_callTy jc_lstS T.z_list (ja_cons (jp_var 4) ja_nil)) jk_nil))) jk_nil)))) (jb_cons (js_set (i := 7) sc.nd (j_callTy (jc_dict rfl) T.z_dict (ja_cons (jp (j_lc [("one", 8)] rfl sc.nd (ji_seq (j_callB (jc_sortD rfl) T.z_sorted (ja_cons (jp_var 5) ja_nil))) (show BlkOk N_law (defScope (top 35)) _ _ from by constructor <;> decide +kernel) (fun _ _ _ _ _ => (jg_name 8 sc.nd)) (fun _ _ _ _ _ => jts_nil) (fun _ _ _ _ _ => (j_tup (jk_cons (j_var 8) (jk_cons (j_callB jc_lenS T.z_len (ja_cons (jp (j_dget hu (jp_var 5) (jp_var 8))) ja_nil)) jk_nil)))))) ja_nil))) (jb_fz 7 (jb_cons (js_set (i := 9) sc.nd (j_cl c_scores hr (by decide) (jk_cons (j_var 6) jk_nil))) (jb_cons (js_if (jt_w (jw_or (jt_lend 9 (jt_not (jt_val (j_cl c__law_same hr (by decide) (jk_cons (j_lst (jk_cons (j_var 9) (jk_cons (j_cl c_score_list hr (by decide) (jk_cons (j_var 6) jk_nil)) jk_nil))) (jk_cons (j_lst (jk_cons (j_var 7) (jk_cons (j_soV rfl hu64 (jp_var 7) T.z_sorted) jk_nil))) jk_nil)))))) (jw_or1 (jt_cmp jo_ne (jp (j_callB (jc_sum rfl) T.z_sum (ja_cons (jp (j_cl c_score_list hr (by decide) (jk_cons (j_var 6) jk_nil))) ja_nil))) (jp (j_callB jc_lenS T.z_len (ja_cons (jp_var 4) ja_nil))))))) (jb_one (js_ret j_bl)) jb_nil) (jb_cons (js_stD 9 hu j_int (jp j_str)) (jb_cons (js_muE PySem.F.plainAttrs_list PySem.F.slot_list_append PySem.F.type_list_append mt_append mok_app (j_cl c_score_list hr (by decide) (jk_cons (j_var 6) jk_nil)) (jk_cons j_int jk_nil)) (jb_cons (js_if (jt_not (jt_val (j_cl c__law_same hr (by decide) (jk_cons (j_lst (jk_cons (j_ck ck_scores_plays hr (by decide) (jpk_cons (j_var 6) jpk_nil)) (jk_cons (j_ck ck_score_list_plays hr (by decide) (jpk_cons (j_var 6) jpk_nil)) jk_nil))) (jk_cons (j_lst (jk_cons (j_var 7) (jk_cons (j_soV rfl hu64 (jp_var 7) T.z_sorted) jk_nil))) jk_nil))))) (jb_one (js_ret j_bl)) jb_nil) (jb_one (js_if (jt_neDk hu0 (j_cl c_scores hr (by decide) (jk_cons (j_mt0 T.cl c_turned hr (by decide) (j_var 6)) jk_nil)) (j_callTy (jc_dict rfl) T.z_dict (ja_cons (jp (j_lcD [("one", 8)] rfl sc.nd (jd_keys (v_var 7)) (show BlkOk N_law (defScope (top 35)) _ _ from by constructor <;> decide +kernel) (fun _ _ _ _ _ => (jg_name 8 sc.nd)) (fun _ _ _ _ _ => jts_nil) (fun _ _ _ _ _ => (j_tup (jk_cons (j_var 8) (jk_cons (j_bin jo_iSub (jp (j_bin jo_iSub (jp (j_callB jc_lenD T.z_len (ja_cons (jp_var 5) ja_nil))) (jp j_int))) (jp (j_dget hu (jp_var 7) (jp_var 8)))) jk_nil)))))) ja_nil))) (jb_one (js_ret j_bl)) jb_nil))))))))))))) (jb_one (js_ret (j_cmp (jo_eqD hu64) (jp (j_cl c_score_list hr (by decide) (jk_cons (j_mk c_Plays hr (by decide) (jk_cons (j_lst (jk_cons j_str (jk_cons j_str (jk_cons j_str jk_nil)))) (jk_cons (j_lst (jk_cons (j_tup (jk_cons j_str (jk_cons j_str jk_nil))) (jk_cons (j_tup (jk_cons j_str (jk_cons j_str jk_nil))) (jk_cons (j_tup (jk_cons j_str (jk_cons j_str jk_nil))) jk_nil)))) jk_nil))) jk_nil))) (jp (j_lst (jk_cons j_int (jk_cons j_int (jk_cons j_int jk_nil)))))))))) hfin

end
end Al.allplay_k04_whole_scores_told

set_option Elab.async false
set_option linter.all false
set_option maxRecDepth 100000
/-! Evaluation, rule by rule. -/
namespace Al
open PySem PySem.Spec PyProof.Rows L2
theorem st_mk (S S' : Option Spr) (cs : List Cell) (B : Hp) : (En.mk S cs B).st S' = En.mk S' cs B := rfl
theorem put_mk (S : Option Spr) (cs : List Cell) (B : Hp) (i : Nat) (c : Cell) : (En.mk S cs B).put i c = En.mk S (cs.set i c) B := rfl
section
variable {S S1 S2 S3 : Option Spr} {cs cs' : List Cell} {B : Hp} {e e1 e2 e' : En} {i n : Nat} {d d1 d2 : D} {r r1 r2 : Rs} {ds es rs : List D} {a b c : PF} {f g h : FE} {fa ga : AF} {q : SF} {t u : TF} {o : D → D → Option Rs} {st st2 : FS} {fl : Fl} {x y z : Bool} {T : Tg}
theorem ev_pVarF (h : cs[i]? = some (.frz d)) : pVar i ⟨S, cs, B⟩ = some (d, S) := by unfold pVar; simp only [h]
theorem ev_pVarO (h : cs[i]? = some (.own d)) : pVar i ⟨S, cs, B⟩ = some (d, S) := by unfold pVar; simp only [h]
theorem ev_fVar (h : cs[i]? = some (.frz d)) : fVar i ⟨S, cs, B⟩ = some (fz d, S) := by unfold fVar; simp only [h]
theorem ev_pE (h : f e = some (r, S1)) : pE f e = some (r.d, S1) := by unfold pE; rw [h]; rfl
theorem ev_pE' {o : Bool} (h : f e = some (⟨d, o⟩, S1)) : pE f e = some (d, S1) := by unfold pE; rw [h]; rfl
theorem ev_fC : fC d ⟨S, cs, B⟩ = some (fz d, S) := rfl
theorem ev_bin (h1 : a ⟨S, cs, B⟩ = some (d1, S1)) (h2 : b ⟨S1, cs, B⟩ = some (d2, S2)) (h3 : o d1 d2 = some r) : fBin o a b ⟨S, cs, B⟩ = some (r, S2) := by unfold fBin; rw [h1, Option.bind_some, st_mk, h2, Option.bind_some, h3]; rfl
theorem ev_aNil : aNil ⟨S, cs, B⟩ = some ([], S) := rfl
theorem ev_aCons (h1 : a ⟨S, cs, B⟩ = some (d, S1)) (h2 : fa ⟨S1, cs, B⟩ = some (ds, S2)) : aCons a fa ⟨S, cs, B⟩ = some (d :: ds, S2) := by unfold aCons; rw [h1, Option.bind_some, st_mk, h2]; rfl
theorem ev_kCons (h1 : f ⟨S, cs, B⟩ = some (r, S1)) (h2 : fa ⟨S1, cs, B⟩ = some (ds, S2)) : kCons f fa ⟨S, cs, B⟩ = some (r.d :: ds, S2) := by unfold kCons; rw [h1, Option.bind_some, st_mk, h2]; rfl
theorem ev_qNil : qNil ⟨S, cs, B⟩ = some ([], S) := rfl
theorem ev_qCons {os : List (Option D)} (h1 : f ⟨S, cs, B⟩ = some (r, S1)) (h2 : q ⟨S1, cs, B⟩ = some (os, S2)) : qCons f q ⟨S, cs, B⟩ = some (some r.d :: os, S2) := by unfold qCons; rw [h1, Option.bind_some, st_mk, h2]; rfl
theorem ev_qSpr {os : List (Option D)} (h : cs[i]? = some .spr) (h2 : q ⟨S, cs, B⟩ = some (os, S2)) : qSpr i q ⟨S, cs, B⟩ = some (none :: os, S2) := by unfold qSpr; simp only [h]; rw [h2]; rfl
theorem ev_app {k : Fb} (h1 : fa ⟨S, cs, B⟩ = some (ds, S1)) (h2 : k ds = some r) : fApp k fa ⟨S, cs, B⟩ = some (r, S1) := by unfold fApp; rw [h1, Option.bind_some, h2]; rfl
theorem ev_cl {Φ : Fn} (h1 : fa ⟨S, cs, B⟩ = some (ds, S1)) (hl : ds.length = n) (h2 : Φ ds = some r) : fCl Φ n fa ⟨S, cs, B⟩ = some (r, S1) := by unfold fCl fCall; rw [h1, Option.bind_some]; simp only [hl, if_true]; rw [h2]; rfl
theorem ev_clS {Φ : FnS} {os : List (Option D)} (h1 : q ⟨S, cs, B⟩ = some (os, S1)) (hl : os.length = n) (h2 : Φ S1 os = some (r, S2)) : fClS Φ n q ⟨S, cs, B⟩ = some (r, S2) := by unfold fClS; rw [h1, Option.bind_some]; simp only [hl, if_true]; rw [h2]
theorem ev_spr0 {a b c : Int} (h : cs[i]? = some .spr) : fSpr i 0 ⟨some ⟨a, b, c⟩, cs, B⟩ = some (fz (.int a), some ⟨a, b, c⟩) := by unfold fSpr; simp only [h]; rfl
theorem ev_spr1 {a b c : Int} (h : cs[i]? = some .spr) : fSpr i 1 ⟨some ⟨a, b, c⟩, cs, B⟩ = some (fz (.int b), some ⟨a, b, c⟩) := by unfold fSpr; simp only [h]; rfl
theorem ev_spr2 {a b c : Int} (h : cs[i]? = some .spr) : fSpr i 2 ⟨some ⟨a, b, c⟩, cs, B⟩ = some (fz (.int c), some ⟨a, b, c⟩) := by unfold fSpr; simp only [h]; rfl
theorem ev_tup (h1 : fa ⟨S, cs, B⟩ = some (ds, S1)) (h2 : ds.length ≤ 10000) : fTup fa ⟨S, cs, B⟩ = some (fz (.tup ds), S1) := by unfold fTup; rw [h1, Option.bind_some]; simp only [h2, if_true]
theorem ev_lst (h1 : fa ⟨S, cs, B⟩ = some (ds, S1)) (h2 : ds.length ≤ 10000) : fLst fa ⟨S, cs, B⟩ = some (nw (.lst ds), S1) := by unfold fLst; rw [h1, Option.bind_some]; simp only [h2, if_true]
theorem ev_ifT (h1 : t ⟨S, cs, B⟩ = some (x, S1)) (hx : x = true) (h2 : f ⟨S1, cs, B⟩ = some (r, S2)) : fIf t f g ⟨S, cs, B⟩ = some (r, S2) := by unfold fIf; rw [h1, Option.bind_some]; simp only [hx, if_true]; exact h2
theorem ev_ifF (h1 : t ⟨S, cs, B⟩ = some (x, S1)) (hx : x = false) (h2 : g ⟨S1, cs, B⟩ = some (r, S2)) : fIf t f g ⟨S, cs, B⟩ = some (r, S2) := by unfold fIf; rw [h1, Option.bind_some]; simp only [hx]; exact h2
theorem ev_tEb (h1 : f e = some (fz (.bl x), S1)) : tEb f e = some (x, S1) := by unfold tEb; rw [h1]; rfl
theorem ev_tNt (h1 : t e = some (x, S1)) : tNt t e = some (!x, S1) := by unfold tNt; rw [h1]; rfl
theorem ev_tAnT (h1 : t ⟨S, cs, B⟩ = some (x, S1)) (hx : x = true) (h2 : u ⟨S1, cs, B⟩ = some (y, S2)) : tAn t u ⟨S, cs, B⟩ = some (y, S2) := by unfold tAn; rw [h1, Option.bind_some]; simp only [hx, if_true]; exact h2
theorem ev_tAnF (h1 : t ⟨S, cs, B⟩ = some (x, S1)) (hx : x = false) : tAn t u ⟨S, cs, B⟩ = some (false, S1) := by unfold tAn; rw [h1, Option.bind_some]; simp only [hx]; rfl
theorem ev_tOrT (h1 : t ⟨S, cs, B⟩ = some (x, S1)) (hx : x = true) : tOr' t u ⟨S, cs, B⟩ = some (true, S1) := by unfold tOr'; rw [h1, Option.bind_some]; simp only [hx, if_true]
theorem ev_tOrF (h1 : t ⟨S, cs, B⟩ = some (x, S1)) (hx : x = false) (h2 : u ⟨S1, cs, B⟩ = some (y, S2)) : tOr' t u ⟨S, cs, B⟩ = some (y, S2) := by unfold tOr'; rw [h1, Option.bind_some]; simp only [hx]; exact h2
theorem ev_chainF {o2 : D → D → Option Rs} {d3 : D} (h1 : a ⟨S, cs, B⟩ = some (d1, S1)) (h2 : b ⟨S1, cs, B⟩ = some (d2, S2)) (h3 : o d1 d2 = some (fz (.bl x))) (hx : x = false) : fChain o o2 a b c ⟨S, cs, B⟩ = some (fz (.bl false), S2) := by
  subst hx; unfold fChain; rw [h1, Option.bind_some, st_mk, h2, Option.bind_some, h3]; rfl
theorem ev_chainT {o2 : D → D → Option Rs} {d3 : D} (h1 : a ⟨S, cs, B⟩ = some (d1, S1)) (h2 : b ⟨S1, cs, B⟩ = some (d2, S2)) (h3 : o d1 d2 = some (fz (.bl x))) (hx : x = true) (h4 : c ⟨S2, cs, B⟩ = some (d3, S3)) (h5 : o2 d2 d3 = some r) : fChain o o2 a b c ⟨S, cs, B⟩ = some (r, S3) := by
  subst hx; unfold fChain; rw [h1, Option.bind_some, st_mk, h2, Option.bind_some, h3]; simp only [Option.bind_some]
  show ((c ((En.mk S cs B).st S2)).bind _) = _
  rw [st_mk, h4]; simp only [Option.bind_some]; rw [h5]; rfl
/-! statements -/
theorem ev_seq (h1 : st e = some (.nx, e1)) (h2 : st2 e1 = some (fl, e2)) : sSeq st st2 e = some (fl, e2) := by unfold sSeq; rw [h1, Option.bind_some]; exact h2
theorem ev_seqR (h1 : st e = some (.rt r, e1)) : sSeq st st2 e = some (.rt r, e1) := by unfold sSeq; rw [h1]; rfl
theorem ev_seqC (h1 : st e = some (.ct, e1)) : sSeq st st2 e = some (.ct, e1) := by unfold sSeq; rw [h1]; rfl
theorem ev_seqB (h1 : st e = some (.bk, e1)) : sSeq st st2 e = some (.bk, e1) := by unfold sSeq; rw [h1]; rfl
theorem ev_set (h1 : f ⟨S, cs, B⟩ = some (r, S1)) : sSet i f ⟨S, cs, B⟩ = some (.nx, ⟨S1, cs.set i r.cell, B⟩) := by unfold sSet; rw [h1]; rfl
theorem ev_ret (h1 : f ⟨S, cs, B⟩ = some (r, S1)) : sRet f ⟨S, cs, B⟩ = some (.rt r, ⟨S1, cs, B⟩) := by unfold sRet; rw [h1]; rfl
theorem ev_retVO (h : cs[i]? = some (.own d)) : sRetV i ⟨S, cs, B⟩ = some (.rt (nw d), ⟨S, cs, B⟩) := by unfold sRetV; simp only [h]
theorem ev_retVF (h : cs[i]? = some (.frz d)) : sRetV i ⟨S, cs, B⟩ = some (.rt (fz d), ⟨S, cs, B⟩) := by unfold sRetV; simp only [h]
theorem ev_sifT (h1 : t ⟨S, cs, B⟩ = some (x, S1)) (hx : x = true) (h2 : st ⟨S1, cs, B⟩ = some (fl, e')) : sIf t st st2 ⟨S, cs, B⟩ = some (fl, e') := by unfold sIf; rw [h1, Option.bind_some]; simp only [hx, if_true]; exact h2
theorem ev_sifF (h1 : t ⟨S, cs, B⟩ = some (x, S1)) (hx : x = false) (h2 : st2 ⟨S1, cs, B⟩ = some (fl, e')) : sIf t st st2 ⟨S, cs, B⟩ = some (fl, e') := by unfold sIf; rw [h1, Option.bind_some]; simp only [hx]; exact h2
theorem ev_nx : sNx e = some (.nx, e) := rfl
theorem ev_fzO (h : cs[i]? = some (.own d)) (h2 : st ⟨S, cs.set i (.frz d), B⟩ = some (fl, e')) : sFz i st ⟨S, cs, B⟩ = some (fl, e') := by unfold sFz En.still; simp only [h]; exact h2
theorem ev_fz2 {dk : List (Key × D)} (h : cs[i]? = some (.own2 dk)) (h2 : st ⟨S, cs.set i (.frz (.dk dk)), B⟩ = some (fl, e')) : sFz i st ⟨S, cs, B⟩ = some (fl, e') := by unfold sFz En.still; simp only [h]; exact h2
theorem ev_fzF (h : cs[i]? = some (.frz d)) (h2 : st ⟨S, cs, B⟩ = some (fl, e')) : sFz i st ⟨S, cs, B⟩ = some (fl, e') := by unfold sFz En.still; simp only [h]; exact h2
theorem ev_sprT0 {a b c v : Int} (h1 : f ⟨S, cs, B⟩ = some (fz (.int v), some ⟨a, b, c⟩)) (h : cs[i]? = some .spr) : sSpr i 0 f ⟨S, cs, B⟩ = some (.nx, ⟨some ⟨v, b, c⟩, cs, B⟩) := by unfold sSpr; rw [h1]; simp only [Option.bind_some, h]; rfl
theorem ev_sprT1 {a b c v : Int} (h1 : f ⟨S, cs, B⟩ = some (fz (.int v), some ⟨a, b, c⟩)) (h : cs[i]? = some .spr) : sSpr i 1 f ⟨S, cs, B⟩ = some (.nx, ⟨some ⟨a, v, c⟩, cs, B⟩) := by unfold sSpr; rw [h1]; simp only [Option.bind_some, h]; rfl
theorem ev_sprT2 {a b c v : Int} (h1 : f ⟨S, cs, B⟩ = some (fz (.int v), some ⟨a, b, c⟩)) (h : cs[i]? = some .spr) : sSpr i 2 f ⟨S, cs, B⟩ = some (.nx, ⟨some ⟨a, b, v⟩, cs, B⟩) := by unfold sSpr; rw [h1]; simp only [Option.bind_some, h]; rfl
theorem ev_for {s : AF} (h1 : s ⟨S, cs, B⟩ = some (ds, S1)) (h2 : forF T st ds ⟨S1, cs, B⟩ = some (fl, e')) : sFor s T st ⟨S, cs, B⟩ = some (fl, e') := by unfold sFor; rw [h1]; exact h2
theorem ev_items {ds : List D} (h : f e = some (r, S1)) (hd : r.d = .lst ds ∨ r.d = .tup ds) : fItems f e = some (ds, S1) := by
  unfold fItems; rw [h, Option.bind_some]
  rcases hd with hd | hd <;> simp only [hd]
theorem ev_comp {s : AF} {vs : List Nat} (h1 : s ⟨S, cs, B⟩ = some (ds, S1)) (hz : ds.length ≤ 100000) (hv : ∀ k ∈ T.slots, k ∈ vs) (h2 : compF T t f ((En.mk S cs B).wipe vs) ds S1 = some (rs, S2)) : fComp s T vs t f ⟨S, cs, B⟩ = some (nw (.lst rs), S2) := by
  unfold fComp; rw [h1, Option.bind_some]
  show (if ds.length ≤ 100000 ∧ (∀ k ∈ T.slots, k ∈ vs) then _ else none) = _
  rw [if_pos ⟨hz, hv⟩, h2]; rfl
theorem ev_runF {m : Nat} (h : ∃ e', st ⟨none, ds.map .frz ++ List.replicate (m - ds.length) .no, fun _ => none⟩ = some (.rt r, e')) : runF m st ds = some r := by obtain ⟨e', h⟩ := h; unfold runF; rw [h]; rfl
theorem ev_runS {m : Nat} {os : List (Option D)} (h : ∃ cs B, st ⟨S, os.map cellO ++ List.replicate (m - os.length) .no, fun _ => none⟩ = some (.rt r, ⟨S1, cs, B⟩)) : runS m st S os = some (r, S1) := by obtain ⟨cs, B, h⟩ := h; unfold runS; rw [h]; rfl
theorem ev_isi {Ts : List String} {x : String} {k : Bool} (h1 : a e = some (d, S1)) (h2 : tyN d = some x) (h3 : (Ts.any fun T => isT T x) = k) : fIsi Ts a e = some (fz (.bl k), S1) := by unfold fIsi; rw [h1, Option.bind_some]; simp only [h2]; rw [← h3]; rfl
theorem ev_strs {s : Str} (h : f e = some (fz (.str s), S1)) : iStrs f e = some (chars s, S1) := by unfold iStrs; rw [h]; rfl
end
section
theorem ev_iLe {i j : Int} : iLe (.int i) (.int j) = some (fz (.bl (decide (i ≤ j)))) := rfl
theorem ev_iLt {i j : Int} : iLt (.int i) (.int j) = some (fz (.bl (decide (i < j)))) := rfl
theorem ev_iGe {i j : Int} : iGe (.int i) (.int j) = some (fz (.bl (decide (i ≥ j)))) := rfl
theorem ev_iGt {i j : Int} : iGt (.int i) (.int j) = some (fz (.bl (decide (i > j)))) := rfl
theorem ev_iAdd {i j : Int} : iAdd (.int i) (.int j) = some (fz (.int (i + j))) := rfl
theorem ev_iSub {i j : Int} : iSub (.int i) (.int j) = some (fz (.int (i - j))) := rfl
theorem ev_iMul {i j : Int} (h : (-(2 ^ 64) < i ∧ i < 2 ^ 64) ∨ (-(2 ^ 64) < j ∧ j < 2 ^ 64)) : iMul (.int i) (.int j) = some (fz (.int (i * j))) := by unfold iMul; simp only [gIntC, intI]; rw [if_pos h]; rfl
theorem ev_iMod {i j : Int} (h : 0 < j) : iMod (.int i) (.int j) = some (fz (.int (i % j))) := by unfold iMod; simp only [gIntC, intI]; rw [if_pos h]; rfl
theorem ev_iDiv {i j : Int} (h : 0 < j ∧ j.natAbs.log2 < 9000) : iDiv (.int i) (.int j) = some (fz (.int (i / j))) := by unfold iDiv; simp only [gIntC, intI]; rw [if_pos h]; rfl
theorem ev_iPow {i j : Int} (h : 0 ≤ j ∧ j ≤ 1000000 ∧ i.natAbs < 2 ^ 64) : iPow (.int i) (.int j) = some (fz (.int (i ^ j.toNat))) := by unfold iPow; simp only [gIntC, intI]; rw [if_pos h]; rfl
theorem ev_bInt {i : Int} : bInt [.int i] = some (fz (.int i)) := rfl
theorem ev_bLenS {ds : List D} : bLenS [.lst ds] = some (fz (.int ds.length)) := rfl
theorem ev_bLenU {ds : List D} : bLenS [.tup ds] = some (fz (.int ds.length)) := rfl
theorem ev_bLenD {ds : List (Key × D)} : bLenD [.dk ds] = some (fz (.int ds.length)) := rfl
theorem ev_bLenT {s : Str} (h : s.length ≤ 16777216) : bLenT [.str s] = some (fz (.int s.length)) := by unfold bLenT; simp only [h, if_true]
theorem ev_bLstS {ds : List D} : bLstS [.lst ds] = some (nw (.lst ds)) := rfl
theorem ev_bLstD {ds : List (Key × D)} : bLstD [.dk ds] = some (nw (.lst (DK.keys ds))) := rfl
theorem ev_bLstStr {s : Str} (h : s.length ≤ 16777216) : bLstStr [.str s] = some (nw (.lst (chars s))) := by unfold bLstStr; simp only [h, if_true]
theorem ev_xLst {ds : List D} {i : Int} {d : D} (h : atI ds i = some d) : xLst (.lst ds) (.int i) = some (fz d) := by unfold xLst; simp only [h]; rfl
theorem ev_xTup {ds : List D} {i : Int} {d : D} (h : atI ds i = some d) : xTup (.tup ds) (.int i) = some (fz d) := by unfold xTup; simp only [h]; rfl
theorem ev_rng1 {fa : AF} {e : En} {S1 : Option Spr} {j : Int} (h : fa e = some ([.int j], S1)) (hb : -(2 ^ 62) ≤ j ∧ j < 2 ^ 62) : fRng1 fa e = some (rngD 0 j.toNat, S1) := by unfold fRng1; rw [h, Option.bind_some]; simp only [hb, and_self, if_true]
end
end Al


set_option Elab.async false
set_option linter.all false
set_option maxRecDepth 100000
/-! Plain facts: names. -/
namespace Al.Cm
open PySem PySem.Spec PyProof.Rows L2 Al
theorem is_list_lst (ds : List D) : Φ_is_list [.lst ds] = some (fz (.bl true)) := by
  apply ev_runF
  apply Exists.intro
  unfold g_is_list
  (repeat' (first | with_reducible assumption | with_reducible apply ev_seq | with_reducible apply ev_sifF | with_reducible apply ev_set | with_reducible apply ev_ret | with_reducible apply ev_bin | with_reducible apply ev_pE | with_reducible apply ev_pE' | with_reducible exact ev_fC | with_reducible apply ev_tOrF | with_reducible apply ev_tAnT | with_reducible apply ev_tNt | with_reducible apply ev_tEb | with_reducible apply ev_app | with_reducible exact ev_aNil | with_reducible apply ev_aCons | with_reducible apply ev_kCons | with_reducible exact ev_qNil | with_reducible apply ev_qSpr | with_reducible apply ev_qCons | with_reducible apply ev_cl | with_reducible apply ev_clS | with_reducible apply ev_tup | with_reducible apply ev_lst | with_reducible apply ev_ifT | with_reducible apply ev_chainT | with_reducible exact ev_nx | with_reducible apply ev_sprT0 | with_reducible apply ev_sprT1 | with_reducible apply ev_sprT2 | with_reducible apply ev_spr0 | with_reducible apply ev_spr1 | with_reducible apply ev_spr2 | with_reducible apply ev_for | with_reducible apply ev_items | with_reducible apply ev_comp | with_reducible apply ev_isi | with_reducible apply ev_strs | with_reducible apply ev_pVarF | with_reducible apply ev_fVar | with_reducible apply ev_rng1 | with_reducible exact ev_iLe | with_reducible exact ev_iLt | with_reducible exact ev_iGe | with_reducible exact ev_iGt | with_reducible exact ev_iAdd | with_reducible exact ev_iSub | with_reducible apply ev_iMul | with_reducible apply ev_iMod | with_reducible apply ev_iDiv | with_reducible apply ev_iPow | with_reducible exact ev_bInt | with_reducible exact ev_bLenS | with_reducible exact ev_bLenU | with_reducible exact ev_bLenD | with_reducible apply ev_bLenT | with_reducible exact ev_bLstS | with_reducible exact ev_bLstD | with_reducible apply ev_bLstStr | with_reducible apply ev_xLst | with_reducible apply ev_xTup | with_reducible assumption | ((with_reducible show _[_]? = some _); rfl) | ((with_reducible show tyN _ = some _); rfl) | ((with_reducible show compF _ _ _ _ _ _ = some _); assumption) | ((with_reducible show forF _ _ _ _ = some _); assumption) | ((with_reducible show ∀ k ∈ Tg.slots _, k ∈ _); simp [Tg.slots]) | ((with_reducible show List.length _ = _); rfl) | ((with_reducible show List.any _ _ = _); rfl)))
theorem is_list_tup (ds : List D) : Φ_is_list [.tup ds] = some (fz (.bl true)) := by
  apply ev_runF
  apply Exists.intro
  unfold g_is_list
  (repeat' (first | with_reducible assumption | with_reducible apply ev_seq | with_reducible apply ev_sifF | with_reducible apply ev_set | with_reducible apply ev_ret | with_reducible apply ev_bin | with_reducible apply ev_pE | with_reducible apply ev_pE' | with_reducible exact ev_fC | with_reducible apply ev_tOrF | with_reducible apply ev_tAnT | with_reducible apply ev_tNt | with_reducible apply ev_tEb | with_reducible apply ev_app | with_reducible exact ev_aNil | with_reducible apply ev_aCons | with_reducible apply ev_kCons | with_reducible exact ev_qNil | with_reducible apply ev_qSpr | with_reducible apply ev_qCons | with_reducible apply ev_cl | with_reducible apply ev_clS | with_reducible apply ev_tup | with_reducible apply ev_lst | with_reducible apply ev_ifT | with_reducible apply ev_chainT | with_reducible exact ev_nx | with_reducible apply ev_sprT0 | with_reducible apply ev_sprT1 | with_reducible apply ev_sprT2 | with_reducible apply ev_spr0 | with_reducible apply ev_spr1 | with_reducible apply ev_spr2 | with_reducible apply ev_for | with_reducible apply ev_items | with_reducible apply ev_comp | with_reducible apply ev_isi | with_reducible apply ev_strs | with_reducible apply ev_pVarF | with_reducible apply ev_fVar | with_reducible apply ev_rng1 | with_reducible exact ev_iLe | with_reducible exact ev_iLt | with_reducible exact ev_iGe | with_reducible exact ev_iGt | with_reducible exact ev_iAdd | with_reducible exact ev_iSub | with_reducible apply ev_iMul | with_reducible apply ev_iMod | with_reducible apply ev_iDiv | with_reducible apply ev_iPow | with_reducible exact ev_bInt | with_reducible exact ev_bLenS | with_reducible exact ev_bLenU | with_reducible exact ev_bLenD | with_reducible apply ev_bLenT | with_reducible exact ev_bLstS | with_reducible exact ev_bLstD | with_reducible apply ev_bLstStr | with_reducible apply ev_xLst | with_reducible apply ev_xTup | with_reducible assumption | ((with_reducible show _[_]? = some _); rfl) | ((with_reducible show tyN _ = some _); rfl) | ((with_reducible show compF _ _ _ _ _ _ = some _); assumption) | ((with_reducible show forF _ _ _ _ = some _); assumption) | ((with_reducible show ∀ k ∈ Tg.slots _, k ∈ _); simp [Tg.slots]) | ((with_reducible show List.length _ = _); rfl) | ((with_reducible show List.any _ _ = _); rfl)))
/-- loops over what does not touch the spring -/
theorem compF_map {T : Tg} {c : TF} {f : FE} {e : En} {S : Option Spr} {v : D → D} : ∀ {ds : List D}, (∀ d ∈ ds, ∃ e1 r, tgD T d (e.st S) = some e1 ∧ c e1 = some (true, S) ∧ f (e1.st S) = some (r, S) ∧ r.d = v d) → compF T c f e ds S = some (ds.map v, S)
  | [], _ => rfl
  | d :: ds, h => by
    obtain ⟨e1, r, h1, h2, h3, h4⟩ := h d List.mem_cons_self
    have ih := compF_map (v := v) (ds := ds) fun x hx => h x (List.mem_cons_of_mem _ hx)
    simp [compF, h1, h2, h3, h4, ih]
/-- names as the program wishes them -/
def Sign (c : Nat) : Prop := c ∈ ("abcdefghijklmnopqrstuvwxyz0123456789" : Str).cps.toList
def Letter (c : Nat) : Prop := c ∈ ("abcdefghijklmnopqrstuvwxyz" : Str).cps.toList
structure NameOk (s : Str) : Prop where
  len : 1 ≤ s.cps.size ∧ s.cps.size ≤ 8
  hd : ∃ c, s.cps.toList[0]? = some c ∧ Letter c
  all : ∀ c ∈ s.cps.toList, Sign c
theorem blsD_true (n : Nat) : blsD (List.replicate n (D.bl true)) = some (List.replicate n true) := by
  induction n with
  | zero => rfl
  | succ n ih => simp [List.replicate_succ, blsD, ih]
theorem map_const {α β : Type} {xs : List α} {b : β} : xs.map (fun _ => b) = List.replicate xs.length b := by
  induction xs with
  | nil => rfl
  | cons x xs ih => simp [List.replicate_succ, ih]
theorem bAll_true {α : Type} {xs : List α} : bAll [.lst (xs.map fun _ => D.bl true)] = some (fz (.bl true)) := by
  rw [map_const]
  simp [bAll, blsD_true]
theorem chars_len (s : Str) : (chars s).length = s.cps.size := by unfold chars; simp
instance (c : Nat) : Decidable (Letter c) := by unfold Letter; infer_instance
instance (c : Nat) : Decidable (Sign c) := by unfold Sign; infer_instance
theorem is_name_ok {s : Str} (h : NameOk s) : Φ_is_name [.str s] = some (fz (.bl true)) := by
  obtain ⟨⟨h1, h2⟩, ⟨c, h3, h4⟩, h5⟩ := h
  have hl : s.length = s.cps.size := rfl
  have hz : s.length ≤ 16777216 := by rw [hl]; omega
  have hat : atI s.cps.toList 0 = some c := by
    have : ixN s.cps.toList.length 0 = some 0 := by
      unfold ixN
      simp only [Array.length_toList]
      rw [if_pos (by omega), if_pos (by omega)]
      rfl
    unfold atI
    rw [this]
    exact h3
  have hlen : (chars s).length ≤ 100000 := by rw [chars_len]; omega
  have e2 : xStr (.str s) (.int 0) = some (fz (.str ⟨#[c]⟩)) := by unfold xStr; simp only [hz, if_true, hat]; rfl
  have e3 : sIn true (.str ⟨#[c]⟩) (.str "abcdefghijklmnopqrstuvwxyz") = some (fz (.bl (!decide (Letter c)))) := rfl
  have comp : compF (.nm 1) tYes' (fBin (sIn false) (pVar 1) (pE (fC (.str "abcdefghijklmnopqrstuvwxyz0123456789")))) (En.mk none [Cell.frz (.str s), .no] fun _ => none) (chars s) none = some ((chars s).map fun _ => D.bl true, none) := by
    refine compF_map fun d hd => ?_
    unfold chars at hd
    obtain ⟨c', hc, rfl⟩ := List.mem_map.mp hd
    have hs := h5 c' hc
    refine ⟨_, fz (.bl (decide (Sign c'))), rfl, rfl, rfl, ?_⟩
    show D.bl (decide (Sign c')) = _
    rw [decide_eq_true hs]
  have ea : bAll [.lst ((chars s).map fun _ => D.bl true)] = some (fz (.bl true)) := bAll_true
  apply ev_runF
  apply Exists.intro
  unfold g_is_name
  (repeat' (first | with_reducible assumption | with_reducible apply ev_seq | with_reducible apply ev_sifF | with_reducible apply ev_set | with_reducible apply ev_ret | with_reducible apply ev_bin | with_reducible apply ev_pE | with_reducible apply ev_pE' | with_reducible exact ev_fC | with_reducible apply ev_tOrF | with_reducible apply ev_tAnT | with_reducible apply ev_tNt | with_reducible apply ev_tEb | with_reducible apply ev_app | with_reducible exact ev_aNil | with_reducible apply ev_aCons | with_reducible apply ev_kCons | with_reducible exact ev_qNil | with_reducible apply ev_qSpr | with_reducible apply ev_qCons | with_reducible apply ev_cl | with_reducible apply ev_clS | with_reducible apply ev_tup | with_reducible apply ev_lst | with_reducible apply ev_ifT | with_reducible apply ev_chainT | with_reducible exact ev_nx | with_reducible apply ev_sprT0 | with_reducible apply ev_sprT1 | with_reducible apply ev_sprT2 | with_reducible apply ev_spr0 | with_reducible apply ev_spr1 | with_reducible apply ev_spr2 | with_reducible apply ev_for | with_reducible apply ev_items | with_reducible apply ev_comp | with_reducible apply ev_isi | with_reducible apply ev_strs | with_reducible apply ev_pVarF | with_reducible apply ev_fVar | with_reducible apply ev_rng1 | with_reducible exact ev_iLe | with_reducible exact ev_iLt | with_reducible exact ev_iGe | with_reducible exact ev_iGt | with_reducible exact ev_iAdd | with_reducible exact ev_iSub | with_reducible apply ev_iMul | with_reducible apply ev_iMod | with_reducible apply ev_iDiv | with_reducible apply ev_iPow | with_reducible exact ev_bInt | with_reducible exact ev_bLenS | with_reducible exact ev_bLenU | with_reducible exact ev_bLenD | with_reducible apply ev_bLenT | with_reducible exact ev_bLstS | with_reducible exact ev_bLstD | with_reducible apply ev_bLstStr | with_reducible apply ev_xLst | with_reducible apply ev_xTup | with_reducible assumption | ((with_reducible show _[_]? = some _); rfl) | ((with_reducible show tyN _ = some _); rfl) | ((with_reducible show compF _ _ _ _ _ _ = some _); assumption) | ((with_reducible show forF _ _ _ _ = some _); assumption) | ((with_reducible show ∀ k ∈ Tg.slots _, k ∈ _); simp [Tg.slots]) | ((with_reducible show List.length _ = _); rfl) | ((with_reducible show List.any _ _ = _); rfl)))
  all_goals (first | rfl | (simp; omega) | (simp [h4]))
end Al.Cm


set_option Elab.async false
set_option linter.all false
set_option maxRecDepth 100000
/-! Plain facts: the spring. -/
namespace Al.Cm
open PySem PySem.Spec PyProof.Rows L2 Al
/-- a spring that has been drawn from at most n times by its own run -/
structure SprOk (n : Nat) (s : Spr) : Prop where
  b : 0 ≤ s.b ∧ s.b < 2147483647
  c : 0 ≤ s.c ∧ s.c ≤ n
theorem SprOk.up {n m : Nat} {s : Spr} (h : SprOk n s) (k : n ≤ m) : SprOk m s := ⟨h.b, h.c.1, by have := h.c.2; omega⟩
theorem draw_ok {n : Nat} {s : Spr} {m : Int} (h : SprOk n s) (hn : n ≤ 1000000) (hm : 0 < m) (hm2 : m < 2 ^ 60) :
    ∃ d s', Φ__law_draw (some s) [none, some (.int m)] = some (fz (.int d), some s') ∧ 0 ≤ d ∧ d < m ∧ SprOk (n + 1) s' := by
  obtain ⟨sa, sb, sc⟩ := s
  obtain ⟨⟨b1, b2⟩, c1, c2⟩ := h
  simp only at b1 b2 c1 c2
  have hlog : m.natAbs.log2 < 9000 := by
    have : m.natAbs < 2 ^ 60 := by omega
    have := Nat.log2_lt (by omega : m.natAbs ≠ 0) |>.mpr this
    omega
  by_cases ha : sa > 0
  · refine ⟨sa % m, ⟨sa / m, sb, sc⟩, ?_, Int.emod_nonneg _ (by omega), Int.emod_lt_of_pos _ hm, ⟨b1, b2⟩, c1, by simp only; omega⟩
    apply ev_runS
    refine ⟨[.spr, .frz (.int m), .frz (.int (sa % m)), .no], fun _ => none, ?_⟩
    show g__law_draw ⟨some ⟨sa, sb, sc⟩, [.spr, .frz (.int m), .no, .no], fun _ => none⟩ = _
    unfold g__law_draw
    refine ev_seqR (ev_sifT (x := decide (sa > 0)) (S1 := some ⟨sa, sb, sc⟩) ?_ (decide_eq_true ha) ?_)
    · (repeat' (first | with_reducible assumption | with_reducible apply ev_seq | with_reducible apply ev_sifF | with_reducible apply ev_set | with_reducible apply ev_ret | with_reducible apply ev_bin | with_reducible apply ev_pE | with_reducible apply ev_pE' | with_reducible exact ev_fC | with_reducible apply ev_tOrF | with_reducible apply ev_tAnT | with_reducible apply ev_tNt | with_reducible apply ev_tEb | with_reducible apply ev_app | with_reducible exact ev_aNil | with_reducible apply ev_aCons | with_reducible apply ev_kCons | with_reducible exact ev_qNil | with_reducible apply ev_qSpr | with_reducible apply ev_qCons | with_reducible apply ev_cl | with_reducible apply ev_clS | with_reducible apply ev_tup | with_reducible apply ev_lst | with_reducible apply ev_ifT | with_reducible apply ev_chainT | with_reducible exact ev_nx | with_reducible apply ev_sprT0 | with_reducible apply ev_sprT1 | with_reducible apply ev_sprT2 | with_reducible apply ev_spr0 | with_reducible apply ev_spr1 | with_reducible apply ev_spr2 | with_reducible apply ev_for | with_reducible apply ev_items | with_reducible apply ev_comp | with_reducible apply ev_isi | with_reducible apply ev_strs | with_reducible apply ev_pVarF | with_reducible apply ev_fVar | with_reducible apply ev_rng1 | with_reducible exact ev_iLe | with_reducible exact ev_iLt | with_reducible exact ev_iGe | with_reducible exact ev_iGt | with_reducible exact ev_iAdd | with_reducible exact ev_iSub | with_reducible apply ev_iMul | with_reducible apply ev_iMod | with_reducible apply ev_iDiv | with_reducible apply ev_iPow | with_reducible exact ev_bInt | with_reducible exact ev_bLenS | with_reducible exact ev_bLenU | with_reducible exact ev_bLenD | with_reducible apply ev_bLenT | with_reducible exact ev_bLstS | with_reducible exact ev_bLstD | with_reducible apply ev_bLstStr | with_reducible apply ev_xLst | with_reducible apply ev_xTup | with_reducible assumption | ((with_reducible show _[_]? = some _); rfl) | ((with_reducible show tyN _ = some _); rfl) | ((with_reducible show compF _ _ _ _ _ _ = some _); assumption) | ((with_reducible show forF _ _ _ _ = some _); assumption) | ((with_reducible show ∀ k ∈ Tg.slots _, k ∈ _); simp [Tg.slots]) | ((with_reducible show List.length _ = _); rfl) | ((with_reducible show List.any _ _ = _); rfl)))
    · refine ev_seq (e1 := ⟨some ⟨sa, sb, sc⟩, [.spr, .frz (.int m), .frz (.int (sa % m)), .no], fun _ => none⟩) ?_ (ev_seq (e1 := ⟨some ⟨sa / m, sb, sc⟩, [.spr, .frz (.int m), .frz (.int (sa % m)), .no], fun _ => none⟩) ?_ ?_)
      · refine ev_set (r := fz (.int (sa % m))) (cs := [.spr, .frz (.int m), .no, .no]) (i := 2) ?_
        (repeat' (first | with_reducible assumption | with_reducible apply ev_seq | with_reducible apply ev_sifF | with_reducible apply ev_set | with_reducible apply ev_ret | with_reducible apply ev_bin | with_reducible apply ev_pE | with_reducible apply ev_pE' | with_reducible exact ev_fC | with_reducible apply ev_tOrF | with_reducible apply ev_tAnT | with_reducible apply ev_tNt | with_reducible apply ev_tEb | with_reducible apply ev_app | with_reducible exact ev_aNil | with_reducible apply ev_aCons | with_reducible apply ev_kCons | with_reducible exact ev_qNil | with_reducible apply ev_qSpr | with_reducible apply ev_qCons | with_reducible apply ev_cl | with_reducible apply ev_clS | with_reducible apply ev_tup | with_reducible apply ev_lst | with_reducible apply ev_ifT | with_reducible apply ev_chainT | with_reducible exact ev_nx | with_reducible apply ev_sprT0 | with_reducible apply ev_sprT1 | with_reducible apply ev_sprT2 | with_reducible apply ev_spr0 | with_reducible apply ev_spr1 | with_reducible apply ev_spr2 | with_reducible apply ev_for | with_reducible apply ev_items | with_reducible apply ev_comp | with_reducible apply ev_isi | with_reducible apply ev_strs | with_reducible apply ev_pVarF | with_reducible apply ev_fVar | with_reducible apply ev_rng1 | with_reducible exact ev_iLe | with_reducible exact ev_iLt | with_reducible exact ev_iGe | with_reducible exact ev_iGt | with_reducible exact ev_iAdd | with_reducible exact ev_iSub | with_reducible apply ev_iMul | with_reducible apply ev_iMod | with_reducible apply ev_iDiv | with_reducible apply ev_iPow | with_reducible exact ev_bInt | with_reducible exact ev_bLenS | with_reducible exact ev_bLenU | with_reducible exact ev_bLenD | with_reducible apply ev_bLenT | with_reducible exact ev_bLstS | with_reducible exact ev_bLstD | with_reducible apply ev_bLstStr | with_reducible apply ev_xLst | with_reducible apply ev_xTup | with_reducible assumption | ((with_reducible show _[_]? = some _); rfl) | ((with_reducible show tyN _ = some _); rfl) | ((with_reducible show compF _ _ _ _ _ _ = some _); assumption) | ((with_reducible show forF _ _ _ _ = some _); assumption) | ((with_reducible show ∀ k ∈ Tg.slots _, k ∈ _); simp [Tg.slots]) | ((with_reducible show List.length _ = _); rfl) | ((with_reducible show List.any _ _ = _); rfl)))
        all_goals exact hm
      · refine ev_sprT0 (a := sa) (b := sb) (c := sc) (v := sa / m) ?_ rfl
        (repeat' (first | with_reducible assumption | with_reducible apply ev_seq | with_reducible apply ev_sifF | with_reducible apply ev_set | with_reducible apply ev_ret | with_reducible apply ev_bin | with_reducible apply ev_pE | with_reducible apply ev_pE' | with_reducible exact ev_fC | with_reducible apply ev_tOrF | with_reducible apply ev_tAnT | with_reducible apply ev_tNt | with_reducible apply ev_tEb | with_reducible apply ev_app | with_reducible exact ev_aNil | with_reducible apply ev_aCons | with_reducible apply ev_kCons | with_reducible exact ev_qNil | with_reducible apply ev_qSpr | with_reducible apply ev_qCons | with_reducible apply ev_cl | with_reducible apply ev_clS | with_reducible apply ev_tup | with_reducible apply ev_lst | with_reducible apply ev_ifT | with_reducible apply ev_chainT | with_reducible exact ev_nx | with_reducible apply ev_sprT0 | with_reducible apply ev_sprT1 | with_reducible apply ev_sprT2 | with_reducible apply ev_spr0 | with_reducible apply ev_spr1 | with_reducible apply ev_spr2 | with_reducible apply ev_for | with_reducible apply ev_items | with_reducible apply ev_comp | with_reducible apply ev_isi | with_reducible apply ev_strs | with_reducible apply ev_pVarF | with_reducible apply ev_fVar | with_reducible apply ev_rng1 | with_reducible exact ev_iLe | with_reducible exact ev_iLt | with_reducible exact ev_iGe | with_reducible exact ev_iGt | with_reducible exact ev_iAdd | with_reducible exact ev_iSub | with_reducible apply ev_iMul | with_reducible apply ev_iMod | with_reducible apply ev_iDiv | with_reducible apply ev_iPow | with_reducible exact ev_bInt | with_reducible exact ev_bLenS | with_reducible exact ev_bLenU | with_reducible exact ev_bLenD | with_reducible apply ev_bLenT | with_reducible exact ev_bLstS | with_reducible exact ev_bLstD | with_reducible apply ev_bLstStr | with_reducible apply ev_xLst | with_reducible apply ev_xTup | with_reducible assumption | ((with_reducible show _[_]? = some _); rfl) | ((with_reducible show tyN _ = some _); rfl) | ((with_reducible show compF _ _ _ _ _ _ = some _); assumption) | ((with_reducible show forF _ _ _ _ = some _); assumption) | ((with_reducible show ∀ k ∈ Tg.slots _, k ∈ _); simp [Tg.slots]) | ((with_reducible show List.length _ = _); rfl) | ((with_reducible show List.any _ _ = _); rfl)))
        exact ⟨hm, hlog⟩
      · exact ev_retVF rfl
  · have q0 : (0 : Int) < 2147483647 := by decide
    have q1 : (0 : Int) < 2147483629 := by decide
    have c3 : sc + 1 ≤ 1000001 := by omega
    have m0 := Int.emod_nonneg ((sb + 6364137 * (sc + 1) + 1442695) ^ 3) (show (2147483647 : Int) ≠ 0 by decide)
    have m1 := Int.emod_lt_of_pos ((sb + 6364137 * (sc + 1) + 1442695) ^ 3) q0
    generalize hM : (sb + 6364137 * (sc + 1) + 1442695) ^ 3 % 2147483647 = M at m0 m1
    refine ⟨(M * 48271 + 11 * (sc + 1)) ^ 3 % 2147483629 / 8 % m, ⟨sa, sb, sc + 1⟩, ?_, Int.emod_nonneg _ (by omega), Int.emod_lt_of_pos _ hm, ⟨b1, b2⟩, by simp only; omega, by simp only; omega⟩
    apply ev_runS
    refine ⟨[.spr, .frz (.int m), .no, .frz (.int M)], fun _ => none, ?_⟩
    show g__law_draw ⟨some ⟨sa, sb, sc⟩, [.spr, .frz (.int m), .no, .no], fun _ => none⟩ = _
    unfold g__law_draw
    refine ev_seq (e1 := ⟨some ⟨sa, sb, sc⟩, [.spr, .frz (.int m), .no, .no], fun _ => none⟩) (ev_sifF (x := decide (sa > 0)) (S1 := some ⟨sa, sb, sc⟩) ?_ (decide_eq_false ha) ?_) ?_
    · (repeat' (first | with_reducible assumption | with_reducible apply ev_seq | with_reducible apply ev_sifF | with_reducible apply ev_set | with_reducible apply ev_ret | with_reducible apply ev_bin | with_reducible apply ev_pE | with_reducible apply ev_pE' | with_reducible exact ev_fC | with_reducible apply ev_tOrF | with_reducible apply ev_tAnT | with_reducible apply ev_tNt | with_reducible apply ev_tEb | with_reducible apply ev_app | with_reducible exact ev_aNil | with_reducible apply ev_aCons | with_reducible apply ev_kCons | with_reducible exact ev_qNil | with_reducible apply ev_qSpr | with_reducible apply ev_qCons | with_reducible apply ev_cl | with_reducible apply ev_clS | with_reducible apply ev_tup | with_reducible apply ev_lst | with_reducible apply ev_ifT | with_reducible apply ev_chainT | with_reducible exact ev_nx | with_reducible apply ev_sprT0 | with_reducible apply ev_sprT1 | with_reducible apply ev_sprT2 | with_reducible apply ev_spr0 | with_reducible apply ev_spr1 | with_reducible apply ev_spr2 | with_reducible apply ev_for | with_reducible apply ev_items | with_reducible apply ev_comp | with_reducible apply ev_isi | with_reducible apply ev_strs | with_reducible apply ev_pVarF | with_reducible apply ev_fVar | with_reducible apply ev_rng1 | with_reducible exact ev_iLe | with_reducible exact ev_iLt | with_reducible exact ev_iGe | with_reducible exact ev_iGt | with_reducible exact ev_iAdd | with_reducible exact ev_iSub | with_reducible apply ev_iMul | with_reducible apply ev_iMod | with_reducible apply ev_iDiv | with_reducible apply ev_iPow | with_reducible exact ev_bInt | with_reducible exact ev_bLenS | with_reducible exact ev_bLenU | with_reducible exact ev_bLenD | with_reducible apply ev_bLenT | with_reducible exact ev_bLstS | with_reducible exact ev_bLstD | with_reducible apply ev_bLstStr | with_reducible apply ev_xLst | with_reducible apply ev_xTup | with_reducible assumption | ((with_reducible show _[_]? = some _); rfl) | ((with_reducible show tyN _ = some _); rfl) | ((with_reducible show compF _ _ _ _ _ _ = some _); assumption) | ((with_reducible show forF _ _ _ _ = some _); assumption) | ((with_reducible show ∀ k ∈ Tg.slots _, k ∈ _); simp [Tg.slots]) | ((with_reducible show List.length _ = _); rfl) | ((with_reducible show List.any _ _ = _); rfl)))
    · (repeat' (first | with_reducible assumption | with_reducible apply ev_seq | with_reducible apply ev_sifF | with_reducible apply ev_set | with_reducible apply ev_ret | with_reducible apply ev_bin | with_reducible apply ev_pE | with_reducible apply ev_pE' | with_reducible exact ev_fC | with_reducible apply ev_tOrF | with_reducible apply ev_tAnT | with_reducible apply ev_tNt | with_reducible apply ev_tEb | with_reducible apply ev_app | with_reducible exact ev_aNil | with_reducible apply ev_aCons | with_reducible apply ev_kCons | with_reducible exact ev_qNil | with_reducible apply ev_qSpr | with_reducible apply ev_qCons | with_reducible apply ev_cl | with_reducible apply ev_clS | with_reducible apply ev_tup | with_reducible apply ev_lst | with_reducible apply ev_ifT | with_reducible apply ev_chainT | with_reducible exact ev_nx | with_reducible apply ev_sprT0 | with_reducible apply ev_sprT1 | with_reducible apply ev_sprT2 | with_reducible apply ev_spr0 | with_reducible apply ev_spr1 | with_reducible apply ev_spr2 | with_reducible apply ev_for | with_reducible apply ev_items | with_reducible apply ev_comp | with_reducible apply ev_isi | with_reducible apply ev_strs | with_reducible apply ev_pVarF | with_reducible apply ev_fVar | with_reducible apply ev_rng1 | with_reducible exact ev_iLe | with_reducible exact ev_iLt | with_reducible exact ev_iGe | with_reducible exact ev_iGt | with_reducible exact ev_iAdd | with_reducible exact ev_iSub | with_reducible apply ev_iMul | with_reducible apply ev_iMod | with_reducible apply ev_iDiv | with_reducible apply ev_iPow | with_reducible exact ev_bInt | with_reducible exact ev_bLenS | with_reducible exact ev_bLenU | with_reducible exact ev_bLenD | with_reducible apply ev_bLenT | with_reducible exact ev_bLstS | with_reducible exact ev_bLstD | with_reducible apply ev_bLstStr | with_reducible apply ev_xLst | with_reducible apply ev_xTup | with_reducible assumption | ((with_reducible show _[_]? = some _); rfl) | ((with_reducible show tyN _ = some _); rfl) | ((with_reducible show compF _ _ _ _ _ _ = some _); assumption) | ((with_reducible show forF _ _ _ _ = some _); assumption) | ((with_reducible show ∀ k ∈ Tg.slots _, k ∈ _); simp [Tg.slots]) | ((with_reducible show List.length _ = _); rfl) | ((with_reducible show List.any _ _ = _); rfl)))
    subst hM
    refine ev_seq (e1 := ⟨some ⟨sa, sb, sc + 1⟩, [.spr, .frz (.int m), .no, .no], fun _ => none⟩) ?_ ?_
    · refine ev_sprT2 (a := sa) (b := sb) (c := sc) (v := sc + 1) ?_ rfl
      (repeat' (first | with_reducible assumption | with_reducible apply ev_seq | with_reducible apply ev_sifF | with_reducible apply ev_set | with_reducible apply ev_ret | with_reducible apply ev_bin | with_reducible apply ev_pE | with_reducible apply ev_pE' | with_reducible exact ev_fC | with_reducible apply ev_tOrF | with_reducible apply ev_tAnT | with_reducible apply ev_tNt | with_reducible apply ev_tEb | with_reducible apply ev_app | with_reducible exact ev_aNil | with_reducible apply ev_aCons | with_reducible apply ev_kCons | with_reducible exact ev_qNil | with_reducible apply ev_qSpr | with_reducible apply ev_qCons | with_reducible apply ev_cl | with_reducible apply ev_clS | with_reducible apply ev_tup | with_reducible apply ev_lst | with_reducible apply ev_ifT | with_reducible apply ev_chainT | with_reducible exact ev_nx | with_reducible apply ev_sprT0 | with_reducible apply ev_sprT1 | with_reducible apply ev_sprT2 | with_reducible apply ev_spr0 | with_reducible apply ev_spr1 | with_reducible apply ev_spr2 | with_reducible apply ev_for | with_reducible apply ev_items | with_reducible apply ev_comp | with_reducible apply ev_isi | with_reducible apply ev_strs | with_reducible apply ev_pVarF | with_reducible apply ev_fVar | with_reducible apply ev_rng1 | with_reducible exact ev_iLe | with_reducible exact ev_iLt | with_reducible exact ev_iGe | with_reducible exact ev_iGt | with_reducible exact ev_iAdd | with_reducible exact ev_iSub | with_reducible apply ev_iMul | with_reducible apply ev_iMod | with_reducible apply ev_iDiv | with_reducible apply ev_iPow | with_reducible exact ev_bInt | with_reducible exact ev_bLenS | with_reducible exact ev_bLenU | with_reducible exact ev_bLenD | with_reducible apply ev_bLenT | with_reducible exact ev_bLstS | with_reducible exact ev_bLstD | with_reducible apply ev_bLstStr | with_reducible apply ev_xLst | with_reducible apply ev_xTup | with_reducible assumption | ((with_reducible show _[_]? = some _); rfl) | ((with_reducible show tyN _ = some _); rfl) | ((with_reducible show compF _ _ _ _ _ _ = some _); assumption) | ((with_reducible show forF _ _ _ _ = some _); assumption) | ((with_reducible show ∀ k ∈ Tg.slots _, k ∈ _); simp [Tg.slots]) | ((with_reducible show List.length _ = _); rfl) | ((with_reducible show List.any _ _ = _); rfl)))
    refine ev_seq (e1 := ⟨some ⟨sa, sb, sc + 1⟩, [.spr, .frz (.int m), .no, .frz (.int ((sb + 6364137 * (sc + 1) + 1442695) ^ 3 % 2147483647))], fun _ => none⟩) ?_ ?_
    · refine ev_set (r := fz (.int ((sb + 6364137 * (sc + 1) + 1442695) ^ 3 % 2147483647))) (cs := [.spr, .frz (.int m), .no, .no]) (i := 3) ?_
      (repeat' (first | with_reducible assumption | with_reducible apply ev_seq | with_reducible apply ev_sifF | with_reducible apply ev_set | with_reducible apply ev_ret | with_reducible apply ev_bin | with_reducible apply ev_pE | with_reducible apply ev_pE' | with_reducible exact ev_fC | with_reducible apply ev_tOrF | with_reducible apply ev_tAnT | with_reducible apply ev_tNt | with_reducible apply ev_tEb | with_reducible apply ev_app | with_reducible exact ev_aNil | with_reducible apply ev_aCons | with_reducible apply ev_kCons | with_reducible exact ev_qNil | with_reducible apply ev_qSpr | with_reducible apply ev_qCons | with_reducible apply ev_cl | with_reducible apply ev_clS | with_reducible apply ev_tup | with_reducible apply ev_lst | with_reducible apply ev_ifT | with_reducible apply ev_chainT | with_reducible exact ev_nx | with_reducible apply ev_sprT0 | with_reducible apply ev_sprT1 | with_reducible apply ev_sprT2 | with_reducible apply ev_spr0 | with_reducible apply ev_spr1 | with_reducible apply ev_spr2 | with_reducible apply ev_for | with_reducible apply ev_items | with_reducible apply ev_comp | with_reducible apply ev_isi | with_reducible apply ev_strs | with_reducible apply ev_pVarF | with_reducible apply ev_fVar | with_reducible apply ev_rng1 | with_reducible exact ev_iLe | with_reducible exact ev_iLt | with_reducible exact ev_iGe | with_reducible exact ev_iGt | with_reducible exact ev_iAdd | with_reducible exact ev_iSub | with_reducible apply ev_iMul | with_reducible apply ev_iMod | with_reducible apply ev_iDiv | with_reducible apply ev_iPow | with_reducible exact ev_bInt | with_reducible exact ev_bLenS | with_reducible exact ev_bLenU | with_reducible exact ev_bLenD | with_reducible apply ev_bLenT | with_reducible exact ev_bLstS | with_reducible exact ev_bLstD | with_reducible apply ev_bLstStr | with_reducible apply ev_xLst | with_reducible apply ev_xTup | with_reducible assumption | ((with_reducible show _[_]? = some _); rfl) | ((with_reducible show tyN _ = some _); rfl) | ((with_reducible show compF _ _ _ _ _ _ = some _); assumption) | ((with_reducible show forF _ _ _ _ = some _); assumption) | ((with_reducible show ∀ k ∈ Tg.slots _, k ∈ _); simp [Tg.slots]) | ((with_reducible show List.length _ = _); rfl) | ((with_reducible show List.any _ _ = _); rfl)))
      all_goals (first | decide | omega | exact ev_iMod q0 | exact ev_iMod hm)
    · (repeat' (first | with_reducible assumption | with_reducible apply ev_seq | with_reducible apply ev_sifF | with_reducible apply ev_set | with_reducible apply ev_ret | with_reducible apply ev_bin | with_reducible apply ev_pE | with_reducible apply ev_pE' | with_reducible exact ev_fC | with_reducible apply ev_tOrF | with_reducible apply ev_tAnT | with_reducible apply ev_tNt | with_reducible apply ev_tEb | with_reducible apply ev_app | with_reducible exact ev_aNil | with_reducible apply ev_aCons | with_reducible apply ev_kCons | with_reducible exact ev_qNil | with_reducible apply ev_qSpr | with_reducible apply ev_qCons | with_reducible apply ev_cl | with_reducible apply ev_clS | with_reducible apply ev_tup | with_reducible apply ev_lst | with_reducible apply ev_ifT | with_reducible apply ev_chainT | with_reducible exact ev_nx | with_reducible apply ev_sprT0 | with_reducible apply ev_sprT1 | with_reducible apply ev_sprT2 | with_reducible apply ev_spr0 | with_reducible apply ev_spr1 | with_reducible apply ev_spr2 | with_reducible apply ev_for | with_reducible apply ev_items | with_reducible apply ev_comp | with_reducible apply ev_isi | with_reducible apply ev_strs | with_reducible apply ev_pVarF | with_reducible apply ev_fVar | with_reducible apply ev_rng1 | with_reducible exact ev_iLe | with_reducible exact ev_iLt | with_reducible exact ev_iGe | with_reducible exact ev_iGt | with_reducible exact ev_iAdd | with_reducible exact ev_iSub | with_reducible apply ev_iMul | with_reducible apply ev_iMod | with_reducible apply ev_iDiv | with_reducible apply ev_iPow | with_reducible exact ev_bInt | with_reducible exact ev_bLenS | with_reducible exact ev_bLenU | with_reducible exact ev_bLenD | with_reducible apply ev_bLenT | with_reducible exact ev_bLstS | with_reducible exact ev_bLstD | with_reducible apply ev_bLstStr | with_reducible apply ev_xLst | with_reducible apply ev_xTup | with_reducible assumption | ((with_reducible show _[_]? = some _); rfl) | ((with_reducible show tyN _ = some _); rfl) | ((with_reducible show compF _ _ _ _ _ _ = some _); assumption) | ((with_reducible show forF _ _ _ _ = some _); assumption) | ((with_reducible show ∀ k ∈ Tg.slots _, k ∈ _); simp [Tg.slots]) | ((with_reducible show List.length _ = _); rfl) | ((with_reducible show List.any _ _ = _); rfl)))
      all_goals (first | decide | omega | exact ev_iMod q0 | exact ev_iMod hm)
/-- one of a list -/
theorem atI_nat {α : Type} {xs : List α} {i : Int} (h0 : 0 ≤ i) (h : i < xs.length) : ∃ x, atI xs i = some x ∧ xs[i.toNat]? = some x ∧ x ∈ xs := by
  have hb : i.toNat < xs.length := by omega
  have : ixN xs.length i = some i.toNat := by
    unfold ixN
    rw [if_pos h0, if_pos h]
  refine ⟨xs[i.toNat], ?_, List.getElem?_eq_getElem hb, List.getElem_mem hb⟩
  unfold atI
  rw [this]
  exact List.getElem?_eq_getElem hb
theorem pick_ok {n : Nat} {s : Spr} {ds : List D} (h : SprOk n s) (hn : n ≤ 1000000) (hd : ds ≠ []) (hl : ds.length ≤ 100000) :
    ∃ d s', Φ__law_pick (some s) [none, some (.lst ds)] = some (fz d, some s') ∧ d ∈ ds ∧ SprOk (n + 1) s' := by
  have hz : 0 < ds.length := List.length_pos_iff.mpr hd
  obtain ⟨i, s', e1, e2, e3, e4⟩ := draw_ok (m := (ds.length : Int)) h hn (by omega) (by omega)
  obtain ⟨x, e5, _, e6⟩ := atI_nat e2 e3
  refine ⟨x, s', ?_, e6, e4⟩
  apply ev_runS
  refine ⟨[.spr, .frz (.lst ds)], fun _ => none, ?_⟩
  show g__law_pick ⟨some s, [.spr, .frz (.lst ds)], fun _ => none⟩ = _
  unfold g__law_pick
  (repeat' (first | with_reducible assumption | with_reducible apply ev_seq | with_reducible apply ev_sifF | with_reducible apply ev_set | with_reducible apply ev_ret | with_reducible apply ev_bin | with_reducible apply ev_pE | with_reducible apply ev_pE' | with_reducible exact ev_fC | with_reducible apply ev_tOrF | with_reducible apply ev_tAnT | with_reducible apply ev_tNt | with_reducible apply ev_tEb | with_reducible apply ev_app | with_reducible exact ev_aNil | with_reducible apply ev_aCons | with_reducible apply ev_kCons | with_reducible exact ev_qNil | with_reducible apply ev_qSpr | with_reducible apply ev_qCons | with_reducible apply ev_cl | with_reducible apply ev_clS | with_reducible apply ev_tup | with_reducible apply ev_lst | with_reducible apply ev_ifT | with_reducible apply ev_chainT | with_reducible exact ev_nx | with_reducible apply ev_sprT0 | with_reducible apply ev_sprT1 | with_reducible apply ev_sprT2 | with_reducible apply ev_spr0 | with_reducible apply ev_spr1 | with_reducible apply ev_spr2 | with_reducible apply ev_for | with_reducible apply ev_items | with_reducible apply ev_comp | with_reducible apply ev_isi | with_reducible apply ev_strs | with_reducible apply ev_pVarF | with_reducible apply ev_fVar | with_reducible apply ev_rng1 | with_reducible exact ev_iLe | with_reducible exact ev_iLt | with_reducible exact ev_iGe | with_reducible exact ev_iGt | with_reducible exact ev_iAdd | with_reducible exact ev_iSub | with_reducible apply ev_iMul | with_reducible apply ev_iMod | with_reducible apply ev_iDiv | with_reducible apply ev_iPow | with_reducible exact ev_bInt | with_reducible exact ev_bLenS | with_reducible exact ev_bLenU | with_reducible exact ev_bLenD | with_reducible apply ev_bLenT | with_reducible exact ev_bLstS | with_reducible exact ev_bLstD | with_reducible apply ev_bLstStr | with_reducible apply ev_xLst | with_reducible apply ev_xTup | with_reducible assumption | ((with_reducible show _[_]? = some _); rfl) | ((with_reducible show tyN _ = some _); rfl) | ((with_reducible show compF _ _ _ _ _ _ = some _); assumption) | ((with_reducible show forF _ _ _ _ = some _); assumption) | ((with_reducible show ∀ k ∈ Tg.slots _, k ∈ _); simp [Tg.slots]) | ((with_reducible show List.length _ = _); rfl) | ((with_reducible show List.any _ _ = _); rfl)))
end Al.Cm


set_option Elab.async false
set_option linter.all false
set_option maxRecDepth 100000
/-! Plain facts: mixed. -/
namespace Al.Cm
open PySem PySem.Spec PyProof.Rows L2 Al
theorem erase_perm {α : Type} : ∀ {xs : List α} {i : Nat} (h : i < xs.length), (xs[i] :: xs.eraseIdx i).Perm xs
  | x :: xs, 0, _ => .refl _
  | x :: xs, i + 1, h => by
    have hi : i < xs.length := Nat.lt_of_succ_lt_succ h
    show (xs[i] :: x :: xs.eraseIdx i).Perm (x :: xs)
    exact (List.Perm.swap _ _ _).trans (List.Perm.cons _ (erase_perm hi))
theorem mixed_go {B : Hp} {d1 : D} : ∀ (ks : List D) (xs : List D) (n : Nat) (s : Spr) (c3 : Cell), ks.length = xs.length → xs.length ≤ 10000 → SprOk n s → n + xs.length ≤ 1000000 →
    ∃ rs s' cs, popF 2 (.nm 3) [3] (fClS Φ__law_draw 2 (qSpr 0 (qCons (fApp bLenS (aCons (pVar 2) aNil)) qNil))) ⟨some s, [.spr, .frz d1, .own (.lst xs), c3], B⟩ ks = some (rs, ⟨some s', cs, B⟩) ∧ rs.Perm xs ∧ SprOk (n + xs.length) s'
  | [], xs, n, s, c3, hk, hz, h, hn => by
    obtain rfl : xs = [] := List.length_eq_zero_iff.mp hk.symm
    exact ⟨[], s, _, rfl, .nil, h⟩
  | k :: ks, xs, n, s, c3, hk, hz, h, hn => by
    have hpos : 0 < xs.length := by rw [← hk]; exact Nat.zero_lt_succ _
    obtain ⟨d, s1, e1, e2, e3, e4⟩ := draw_ok (m := (xs.length : Int)) h (by omega) (by omega) (by omega)
    obtain ⟨x, _, e5, e6⟩ := atI_nat e2 e3
    have hd : d.toNat < xs.length := by omega
    have hlen : (xs.eraseIdx d.toNat).length = xs.length - 1 := List.length_eraseIdx_of_lt hd
    have hk' : ks.length = (xs.eraseIdx d.toNat).length := by rw [hlen, ← hk]; rfl
    obtain ⟨rs, s', cs, f1, f2, f3⟩ := mixed_go ks (xs.eraseIdx d.toNat) (n + 1) s1 c3 hk' (by omega) e4 (by omega)
    have hix : seqIndex? d xs.length = some d.toNat := by
      unfold seqIndex?
      first | (simp [e2, e3, hd]; done) | (split <;> simp_all <;> omega)
    have ev1 : (fClS Φ__law_draw 2 (qSpr 0 (qCons (fApp bLenS (aCons (pVar 2) aNil)) qNil))) ⟨some s, [.spr, .frz d1, .own (.lst xs), .frz k], B⟩ = some (fz (.int d), some s1) := by
      have hv : pVar 2 ⟨some s, [.spr, .frz d1, .own (.lst xs), .frz k], B⟩ = some (.lst xs, some s) := ev_pVarO rfl
      (repeat' (first | with_reducible assumption | with_reducible apply ev_seq | with_reducible apply ev_sifF | with_reducible apply ev_set | with_reducible apply ev_ret | with_reducible apply ev_bin | with_reducible apply ev_pE | with_reducible apply ev_pE' | with_reducible exact ev_fC | with_reducible apply ev_tOrF | with_reducible apply ev_tAnT | with_reducible apply ev_tNt | with_reducible apply ev_tEb | with_reducible apply ev_app | with_reducible exact ev_aNil | with_reducible apply ev_aCons | with_reducible apply ev_kCons | with_reducible exact ev_qNil | with_reducible apply ev_qSpr | with_reducible apply ev_qCons | with_reducible apply ev_cl | with_reducible apply ev_clS | with_reducible apply ev_tup | with_reducible apply ev_lst | with_reducible apply ev_ifT | with_reducible apply ev_chainT | with_reducible exact ev_nx | with_reducible apply ev_sprT0 | with_reducible apply ev_sprT1 | with_reducible apply ev_sprT2 | with_reducible apply ev_spr0 | with_reducible apply ev_spr1 | with_reducible apply ev_spr2 | with_reducible apply ev_for | with_reducible apply ev_items | with_reducible apply ev_comp | with_reducible apply ev_isi | with_reducible apply ev_strs | with_reducible apply ev_pVarF | with_reducible apply ev_fVar | with_reducible apply ev_rng1 | with_reducible exact ev_iLe | with_reducible exact ev_iLt | with_reducible exact ev_iGe | with_reducible exact ev_iGt | with_reducible exact ev_iAdd | with_reducible exact ev_iSub | with_reducible apply ev_iMul | with_reducible apply ev_iMod | with_reducible apply ev_iDiv | with_reducible apply ev_iPow | with_reducible exact ev_bInt | with_reducible exact ev_bLenS | with_reducible exact ev_bLenU | with_reducible exact ev_bLenD | with_reducible apply ev_bLenT | with_reducible exact ev_bLstS | with_reducible exact ev_bLstD | with_reducible apply ev_bLstStr | with_reducible apply ev_xLst | with_reducible apply ev_xTup | with_reducible assumption | ((with_reducible show _[_]? = some _); rfl) | ((with_reducible show tyN _ = some _); rfl) | ((with_reducible show compF _ _ _ _ _ _ = some _); assumption) | ((with_reducible show forF _ _ _ _ = some _); assumption) | ((with_reducible show ∀ k ∈ Tg.slots _, k ∈ _); simp [Tg.slots]) | ((with_reducible show List.length _ = _); rfl) | ((with_reducible show List.any _ _ = _); rfl)))
    refine ⟨x :: rs, s', cs, ?_, ?_, ?_⟩
    · unfold popF
      show (((fClS Φ__law_draw 2 (qSpr 0 (qCons (fApp bLenS (aCons (pVar 2) aNil)) qNil))) ⟨some s, [.spr, .frz d1, .own (.lst xs), .frz k], B⟩).bind _) = _
      rw [ev1]
      simp only [Option.bind_some]
      show (if -(2 ^ 63) ≤ d ∧ d < 2 ^ 63 then _ else none) = _
      rw [if_pos ⟨by omega, by omega⟩, hix]
      simp only [Option.bind_some]
      rw [e5]
      simp only [Option.bind_some]
      show (popF 2 (.nm 3) [3] _ ⟨some s1, [.spr, .frz d1, .own (.lst (xs.eraseIdx d.toNat)), c3], B⟩ ks).map _ = _
      rw [f1]
      rfl
    · have hx : x = xs[d.toNat] := by
        have := List.getElem?_eq_getElem hd
        rw [this] at e5
        exact (Option.some.inj e5).symm
      have p1 : (xs[d.toNat] :: xs.eraseIdx d.toNat).Perm xs := erase_perm hd
      rw [hx]
      exact (List.Perm.cons _ f2).trans p1
    · rw [hlen] at f3
      have : n + 1 + (xs.length - 1) = n + xs.length := by omega
      rw [this] at f3
      exact f3
theorem mixed_ok {n : Nat} {s : Spr} {ds : List D} (h : SprOk n s) (hl : ds.length ≤ 10000) (hn : n + ds.length ≤ 1000000) :
    ∃ rs s', Φ__law_mixed (some s) [none, some (.lst ds)] = some (nw (.lst rs), some s') ∧ rs.Perm ds ∧ SprOk (n + ds.length) s' := by
  obtain ⟨rs, s', cs, f1, f2, f3⟩ := mixed_go (B := fun _ => none) (d1 := .lst ds) (rngD 0 (ds.length : Int).toNat) ds n s .no (by simp [rngD]) hl h hn
  refine ⟨rs, s', ?_, f2, f3⟩
  apply ev_runS
  refine ⟨cs, fun _ => none, ?_⟩
  show g__law_mixed ⟨some s, [.spr, .frz (.lst ds), .no, .no], fun _ => none⟩ = _
  unfold g__law_mixed
  refine ev_seq (e1 := ⟨some s, [.spr, .frz (.lst ds), .own (.lst ds), .no], fun _ => none⟩) ?_ ?_
  · refine ev_set (r := nw (.lst ds)) (cs := [.spr, .frz (.lst ds), .no, .no]) (i := 2) ?_
    (repeat' (first | with_reducible assumption | with_reducible apply ev_seq | with_reducible apply ev_sifF | with_reducible apply ev_set | with_reducible apply ev_ret | with_reducible apply ev_bin | with_reducible apply ev_pE | with_reducible apply ev_pE' | with_reducible exact ev_fC | with_reducible apply ev_tOrF | with_reducible apply ev_tAnT | with_reducible apply ev_tNt | with_reducible apply ev_tEb | with_reducible apply ev_app | with_reducible exact ev_aNil | with_reducible apply ev_aCons | with_reducible apply ev_kCons | with_reducible exact ev_qNil | with_reducible apply ev_qSpr | with_reducible apply ev_qCons | with_reducible apply ev_cl | with_reducible apply ev_clS | with_reducible apply ev_tup | with_reducible apply ev_lst | with_reducible apply ev_ifT | with_reducible apply ev_chainT | with_reducible exact ev_nx | with_reducible apply ev_sprT0 | with_reducible apply ev_sprT1 | with_reducible apply ev_sprT2 | with_reducible apply ev_spr0 | with_reducible apply ev_spr1 | with_reducible apply ev_spr2 | with_reducible apply ev_for | with_reducible apply ev_items | with_reducible apply ev_comp | with_reducible apply ev_isi | with_reducible apply ev_strs | with_reducible apply ev_pVarF | with_reducible apply ev_fVar | with_reducible apply ev_rng1 | with_reducible exact ev_iLe | with_reducible exact ev_iLt | with_reducible exact ev_iGe | with_reducible exact ev_iGt | with_reducible exact ev_iAdd | with_reducible exact ev_iSub | with_reducible apply ev_iMul | with_reducible apply ev_iMod | with_reducible apply ev_iDiv | with_reducible apply ev_iPow | with_reducible exact ev_bInt | with_reducible exact ev_bLenS | with_reducible exact ev_bLenU | with_reducible exact ev_bLenD | with_reducible apply ev_bLenT | with_reducible exact ev_bLstS | with_reducible exact ev_bLstD | with_reducible apply ev_bLstStr | with_reducible apply ev_xLst | with_reducible apply ev_xTup | with_reducible assumption | ((with_reducible show _[_]? = some _); rfl) | ((with_reducible show tyN _ = some _); rfl) | ((with_reducible show compF _ _ _ _ _ _ = some _); assumption) | ((with_reducible show forF _ _ _ _ = some _); assumption) | ((with_reducible show ∀ k ∈ Tg.slots _, k ∈ _); simp [Tg.slots]) | ((with_reducible show List.length _ = _); rfl) | ((with_reducible show List.any _ _ = _); rfl)))
  · unfold sPop
    have hr : fRng1 (aCons (pE (fApp bLenS (aCons (pVar 2) aNil))) aNil) ⟨some s, [.spr, .frz (.lst ds), .own (.lst ds), .no], fun _ => none⟩ = some (rngD 0 (ds.length : Int).toNat, some s) := by
      have hv : pVar 2 ⟨some s, [.spr, .frz (.lst ds), .own (.lst ds), .no], fun _ => none⟩ = some (.lst ds, some s) := ev_pVarO rfl
      refine ev_rng1 (j := (ds.length : Int)) ?_ ⟨by omega, by omega⟩
      (repeat' (first | with_reducible assumption | with_reducible apply ev_seq | with_reducible apply ev_sifF | with_reducible apply ev_set | with_reducible apply ev_ret | with_reducible apply ev_bin | with_reducible apply ev_pE | with_reducible apply ev_pE' | with_reducible exact ev_fC | with_reducible apply ev_tOrF | with_reducible apply ev_tAnT | with_reducible apply ev_tNt | with_reducible apply ev_tEb | with_reducible apply ev_app | with_reducible exact ev_aNil | with_reducible apply ev_aCons | with_reducible apply ev_kCons | with_reducible exact ev_qNil | with_reducible apply ev_qSpr | with_reducible apply ev_qCons | with_reducible apply ev_cl | with_reducible apply ev_clS | with_reducible apply ev_tup | with_reducible apply ev_lst | with_reducible apply ev_ifT | with_reducible apply ev_chainT | with_reducible exact ev_nx | with_reducible apply ev_sprT0 | with_reducible apply ev_sprT1 | with_reducible apply ev_sprT2 | with_reducible apply ev_spr0 | with_reducible apply ev_spr1 | with_reducible apply ev_spr2 | with_reducible apply ev_for | with_reducible apply ev_items | with_reducible apply ev_comp | with_reducible apply ev_isi | with_reducible apply ev_strs | with_reducible apply ev_pVarF | with_reducible apply ev_fVar | with_reducible apply ev_rng1 | with_reducible exact ev_iLe | with_reducible exact ev_iLt | with_reducible exact ev_iGe | with_reducible exact ev_iGt | with_reducible exact ev_iAdd | with_reducible exact ev_iSub | with_reducible apply ev_iMul | with_reducible apply ev_iMod | with_reducible apply ev_iDiv | with_reducible apply ev_iPow | with_reducible exact ev_bInt | with_reducible exact ev_bLenS | with_reducible exact ev_bLenU | with_reducible exact ev_bLenD | with_reducible apply ev_bLenT | with_reducible exact ev_bLstS | with_reducible exact ev_bLstD | with_reducible apply ev_bLstStr | with_reducible apply ev_xLst | with_reducible apply ev_xTup | with_reducible assumption | ((with_reducible show _[_]? = some _); rfl) | ((with_reducible show tyN _ = some _); rfl) | ((with_reducible show compF _ _ _ _ _ _ = some _); assumption) | ((with_reducible show forF _ _ _ _ = some _); assumption) | ((with_reducible show ∀ k ∈ Tg.slots _, k ∈ _); simp [Tg.slots]) | ((with_reducible show List.length _ = _); rfl) | ((with_reducible show List.any _ _ = _); rfl)))
    rw [hr]
    simp only [Option.bind_some]
    rw [if_pos ⟨by simp [rngD]; omega, by simp [Tg.slots], by decide⟩]
    show (popF 2 (.nm 3) [3] _ ⟨some s, [.spr, .frz (.lst ds), .own (.lst ds), .no], fun _ => none⟩ _).map _ = _
    rw [f1]
    rfl
end Al.Cm


set_option Elab.async false
set_option linter.all false
set_option maxRecDepth 100000
/-! Plain facts: words. -/
namespace Al.Cm
open PySem PySem.Spec PyProof.Rows L2 Al
structure Nm (n : Nat) (s : Str) : Prop where
  len : 1 ≤ s.cps.size ∧ s.cps.size ≤ n
  hd : ∃ c, s.cps.toList[0]? = some c ∧ Letter c
  all : ∀ c ∈ s.cps.toList, Sign c
theorem Nm.up {n m : Nat} {s : Str} (h : Nm n s) (k : n ≤ m) : Nm m s := ⟨⟨h.len.1, Nat.le_trans h.len.2 k⟩, h.hd, h.all⟩
theorem Nm.ok {s : Str} (h : Nm 8 s) : NameOk s := ⟨h.len, h.hd, h.all⟩
def cutN (n : Nat) (s : Str) : Str := ⟨(s.cps.toList.take n).toArray⟩
theorem cutS_take (s : Str) (n : Nat) : cutS s none (some (n : Int)) = cutN n s := by
  unfold cutS cutN
  have h0 : HT.sIx s.length 0 none = 0 := rfl
  have h1 : HT.sIx s.length s.length (some (n : Int)) = min n s.length := by
    unfold HT.sIx
    simp
    omega
  rw [h0, h1]
  simp [Str.length]
theorem app_list (a b : Str) : (a ++ b).cps.toList = a.cps.toList ++ b.cps.toList := by
  show (a.cps ++ b.cps).toList = _
  simp
theorem app_size (a b : Str) : (a ++ b).cps.size = a.cps.size + b.cps.size := by
  show (a.cps ++ b.cps).size = _
  simp
theorem Nm.cut {n k : Nat} {s : Str} (h : Nm n s) (hk : 1 ≤ k) : Nm k (cutN k s) := by
  obtain ⟨⟨h1, h2⟩, ⟨c, h3, h4⟩, h5⟩ := h
  refine ⟨⟨?_, ?_⟩, ⟨c, ?_, h4⟩, fun x hx => h5 x ?_⟩
  · simp [cutN]; omega
  · simp [cutN]; omega
  · simp only [cutN]
    rw [List.getElem?_take, if_pos (by omega)]
    exact h3
  · simp only [cutN] at hx
    exact List.mem_of_mem_take hx
theorem Nm.app {n : Nat} {s : Str} (h : Nm n s) {c : Nat} (hc : Sign c) : Nm (n + 1) (s ++ ⟨#[c]⟩) := by
  obtain ⟨⟨h1, h2⟩, ⟨d, h3, h4⟩, h5⟩ := h
  refine ⟨⟨?_, ?_⟩, ⟨d, ?_, h4⟩, fun x hx => ?_⟩
  · rw [app_size]; omega
  · rw [app_size]; show s.cps.size + 1 ≤ _; omega
  · rw [app_list, List.getElem?_append_left (by simp; omega)]
    exact h3
  · rw [app_list] at hx
    rcases List.mem_append.mp hx with hx | hx
    · exact h5 x hx
    · simp at hx; subst hx; exact hc
theorem nodup_len {α : Type} [DecidableEq α] : ∀ {vs ns : List α}, vs.Nodup → (∀ v ∈ vs, v ∈ ns) → vs.length ≤ ns.length
  | [], _, _, _ => Nat.zero_le _
  | v :: vs, ns, h, k => by
    have hv := k v List.mem_cons_self
    have hn := List.nodup_cons.mp h
    have : vs.length ≤ (ns.erase v).length := nodup_len hn.2 fun x hx => by
      have hx2 := k x (List.mem_cons_of_mem _ hx)
      have : x ≠ v := fun e => hn.1 (e ▸ hx)
      exact (List.mem_erase_of_ne this).mpr hx2
    rw [List.length_erase_of_mem hv] at this
    have := List.length_pos_of_mem hv
    simp only [List.length_cons]
    omega
def stp (ns : List Str) (x : Str) (c : Nat) : Str := if x ∈ ns then cutN 6 x ++ ⟨#[c]⟩ else x
theorem stp_out {ns : List Str} : ∀ (cs : List Nat) {x : Str}, x ∉ ns → cs.foldl (stp ns) x = x
  | [], _, _ => rfl
  | c :: cs, x, h => by
    show cs.foldl (stp ns) (stp ns x c) = x
    have : stp ns x c = x := if_neg h
    rw [this]
    exact stp_out cs h
theorem stp_go {ns : List Str} : ∀ (cs done : List Nat) (x : Str) (vs : List Str), (done ++ cs).Nodup → vs.Nodup → vs.length = done.length → (∀ v ∈ vs, v ∈ ns ∧ ∃ c ∈ done, v.cps.toList.getLast? = some c) → cs.foldl (stp ns) x ∈ ns →
    ∃ vs' : List Str, vs'.Nodup ∧ (∀ v ∈ vs', v ∈ ns) ∧ vs'.length = done.length + cs.length
  | [], done, x, vs, h1, h2, h3, h4, h5 => ⟨vs, h2, fun v hv => (h4 v hv).1, h3⟩
  | c :: cs, done, x, vs, h1, h2, h3, h4, h5 => by
    have h5 : cs.foldl (stp ns) (stp ns x c) ∈ ns := h5
    by_cases hx : x ∈ ns
    · have e1 : stp ns x c = cutN 6 x ++ ⟨#[c]⟩ := if_pos hx
      by_cases hy : stp ns x c ∈ ns
      · have hc : c ∉ done := fun hc => by
          have := List.nodup_append.mp h1
          exact this.2.2 c hc c List.mem_cons_self rfl
        have hlast : (stp ns x c).cps.toList.getLast? = some c := by rw [e1, app_list]; simp
        have hnot : stp ns x c ∉ vs := fun hv => by
          obtain ⟨_, c', hc', hl⟩ := h4 _ hv
          rw [hlast] at hl
          cases hl
          exact hc hc'
        obtain ⟨vs', a, b, d⟩ := stp_go cs (done ++ [c]) (stp ns x c) (stp ns x c :: vs) (by simpa using h1) (List.nodup_cons.mpr ⟨hnot, h2⟩) (by simp [h3]) (fun v hv => by
          rcases List.mem_cons.mp hv with rfl | hv
          · exact ⟨hy, c, by simp, hlast⟩
          · obtain ⟨p, c', q, r⟩ := h4 v hv
            exact ⟨p, c', by simp [q], r⟩) h5
        exact ⟨vs', a, b, by rw [d]; simp; omega⟩
      · rw [stp_out cs hy] at h5
        exact absurd h5 hy
    · have : stp ns x c = x := if_neg hx
      rw [this, stp_out cs hx] at h5
      exact absurd h5 hx
theorem stp_free {ns : List Str} {cs : List Nat} {x : Str} (h : cs.Nodup) (hl : ns.length < cs.length) : cs.foldl (stp ns) x ∉ ns := fun hx => by
  obtain ⟨vs, a, b, c⟩ := stp_go cs [] x [] h List.nodup_nil rfl (fun v hv => by cases hv) hx
  have := nodup_len a b
  simp at c
  omega
theorem stp_nm {ns : List Str} : ∀ {cs : List Nat} {x : Str}, (∀ c ∈ cs, Sign c) → Nm 7 x → Nm 7 (cs.foldl (stp ns) x)
  | [], _, _, h => h
  | c :: cs, x, hc, h => by
    refine stp_nm (cs := cs) (fun c' h' => hc c' (List.mem_cons_of_mem _ h')) ?_
    unfold stp
    split
    · exact (h.cut (k := 6) (by decide)).app (hc c List.mem_cons_self)
    · exact h
/-- a dict of names -/
def nd (ns : List Str) (d : D) : List (Key × D) := ns.map fun s => (Sum.inr s, d)
theorem getK_nd {ns : List Str} {d : D} {s : Str} : getK (nd ns d) (Sum.inr s : Key) = if s ∈ ns then some d else none := by
  induction ns with
  | nil => rfl
  | cons n ns ih =>
    unfold getK nd at *
    by_cases h : n = s
    · subst h; simp
    · have h' : ¬ s = n := fun e => h e.symm
      simp only [List.map_cons, List.find?_cons, Sum.inr.injEq, h, decide_false]
      rw [ih]
      simp [h']
theorem keys_nd {ns : List Str} {d : D} : DK.keys (nd ns d) = ns.map .str := by
  unfold DK.keys nd
  simp
theorem putD_nd {ns : List Str} {d : D} {s : Str} (h : s ∉ ns) : putD (nd ns d) (Sum.inr s : Key) d = nd (ns ++ [s]) d := by
  unfold putD nd
  rw [if_neg]
  · simp
  · simp; exact h
end Al.Cm


set_option Elab.async false
set_option linter.all false
set_option maxRecDepth 100000
/-! Plain facts: loops, names drawn. -/
namespace Al.Cm
open PySem PySem.Spec PyProof.Rows L2 Al
theorem forF_list {T : Tg} {b : FS} (R : List D → En → Prop) (h : ∀ d ds e, R (d :: ds) e → ∃ e1 e', tgD T d e = some e1 ∧ b e1 = some (.nx, e') ∧ R ds e') : ∀ (ds : List D) (e : En), R ds e → ∃ e', forF T b ds e = some (.nx, e') ∧ R [] e'
  | [], e, r => ⟨e, rfl, r⟩
  | d :: ds, e, r => by
    obtain ⟨e1, e', h1, h2, h3⟩ := h d ds e r
    obtain ⟨e2, h4, h5⟩ := forF_list R h ds e' h3
    exact ⟨e2, by simp [forF, h1, h2, h4], h5⟩
theorem ev_oNo {e : En} : oNo e = some (none, e.S) := rfl
theorem ev_oSo {f : FE} {e : En} {i : Int} {S1 : Option Spr} (h : f e = some (fz (.int i), S1)) : oSo f e = some (some i, S1) := by unfold oSo; rw [h]; rfl
theorem ev_sl {g : D → Option Int → Option Int → Option Rs} {f : PF} {l h : OF} {S S1 S2 S3 : Option Spr} {cs : List Cell} {B : Hp} {d : D} {x y : Option Int} {r : Rs} (h1 : f ⟨S, cs, B⟩ = some (d, S1)) (h2 : l ⟨S1, cs, B⟩ = some (x, S2)) (h3 : h ⟨S2, cs, B⟩ = some (y, S3)) (h4 : g d x y = some r) : fSl g f l h ⟨S, cs, B⟩ = some (r, S3) := by
  unfold fSl; rw [h1]; simp only [Option.bind_some]; rw [st_mk, h2]; simp only [Option.bind_some]; rw [st_mk, h3]; simp only [Option.bind_some]; rw [h4]; rfl
theorem ev_slStr {z : Str} {n : Nat} (h : z.cps.size ≤ 100) : slStr (.str z) none (some (n : Int)) = some (fz (.str (cutN n z))) := by
  unfold slStr
  have : z.length ≤ 16777216 := by show z.cps.size ≤ _; omega
  simp only [this, if_true]
  rw [cutS_take]
theorem ev_sAdd {x y : Str} (h : x.cps.size ≤ 100) (k : y.cps.size ≤ 100) : sAdd (.str x) (.str y) = some (fz (.str (x ++ y))) := by
  have : x.length + y.length ≤ 16777216 := by show x.cps.size + y.cps.size ≤ _; omega
  show Option.map _ (if x.length + y.length ≤ 16777216 then _ else none) = _
  rw [if_pos this]
  rfl
theorem ev_dinN {a b : PF} {S S1 S2 : Option Spr} {cs : List Cell} {B : Hp} {s : Str} {ns : List Str} {d : D} (h1 : a ⟨S, cs, B⟩ = some (.str s, S1)) (h2 : b ⟨S1, cs, B⟩ = some (.dk (nd ns d), S2)) : fDin false a b ⟨S, cs, B⟩ = some (fz (.bl (decide (s ∈ ns))), S2) := by
  unfold fDin
  rw [h1]; simp only [Option.bind_some]; rw [st_mk, h2]
  simp only [Option.bind_some, lookD, toKey, Option.map_some]
  have : getK (nd ns d) (Sum.inr s : Key) = if s ∈ ns then some d else none := getK_nd
  rw [this]
  by_cases hs : s ∈ ns <;> simp [hs]
theorem ev_stNew {i : Nat} {a : PF} {f : FE} {S S1 S2 : Option Spr} {cs : List Cell} {B : Hp} {s : Str} {ns : List Str} {r : Rs} (h1 : f ⟨S, cs, B⟩ = some (r, S1)) (h2 : a ⟨S1, cs, B⟩ = some (.str s, S2)) (h3 : cs[i]? = some (.own (.dk (nd ns r.d)))) (h4 : s ∉ ns) (h5 : ns.length < 100000) :
    sSt i puD a f ⟨S, cs, B⟩ = some (.nx, ⟨S2, cs.set i (.own (.dk (nd (ns ++ [s]) r.d))), B⟩) := by
  unfold sSt
  rw [h1]; simp only [Option.bind_some]; rw [st_mk, h2]
  simp only [Option.bind_some, h3, puD, toKey]
  have hl : (nd ns r.d).length < 100000 := by simp [nd]; exact h5
  rw [if_pos hl]
  have : putD (nd ns r.d) (Sum.inr s : Key) r.d = nd (ns ++ [s]) r.d := putD_nd h4
  simp only [Option.map_some]
  rw [this]
  rfl
theorem tru_nd {i : Nat} {S : Option Spr} {cs : List Cell} {B : Hp} {ns : List Str} {d : D} (h : cs[i]? = some (.own (.dk (nd ns d)))) : tTruO i ⟨S, cs, B⟩ = some (!ns.isEmpty, S) := by
  unfold tTruO
  simp only [h]
  cases ns <;> rfl
abbrev nE (s : Spr) (m : Int) (ns : List Str) (c3 c4 c5 : Cell) : En := ⟨some s, [.spr, .frz (.int m), .own (.dk (nd ns (.int 1))), c3, c4, c5], fun _ => none⟩
/-- a drawn letter -/
theorem pick_chars {n : Nat} {s : Spr} {w : Str} (h : SprOk n s) (hn : n ≤ 1000000) (hw : 0 < w.cps.size ∧ w.cps.size ≤ 100) (P : Nat → Prop) (hp : ∀ c ∈ w.cps.toList, P c) :
    ∃ c s', Φ__law_pick (some s) [none, some (.lst (chars w))] = some (fz (.str ⟨#[c]⟩), some s') ∧ P c ∧ SprOk (n + 1) s' := by
  obtain ⟨d, s', e1, e2, e3⟩ := pick_ok (ds := chars w) h hn (by intro e; have := chars_len w; rw [e] at this; simp at this; omega) (by rw [chars_len]; omega)
  unfold chars at e2
  obtain ⟨c, hc, rfl⟩ := List.mem_map.mp e2
  exact ⟨c, s', e1, hp c hc, e3⟩
theorem one_nm {c : Nat} (h : Letter c) : Nm 1 ⟨#[c]⟩ := ⟨⟨Nat.le_refl 1, Nat.le_refl 1⟩, ⟨c, rfl, h⟩, fun x hx => by
  simp at hx; subst hx
  revert h
  unfold Letter Sign
  have : ∀ c ∈ ("abcdefghijklmnopqrstuvwxyz" : Str).cps.toList, c ∈ ("abcdefghijklmnopqrstuvwxyz0123456789" : Str).cps.toList := by decide +kernel
  exact this x⟩
end Al.Cm


set_option Elab.async false
set_option linter.all false
set_option maxRecDepth 100000
/-! Plain facts: names drawn. -/
namespace Al.Cm
open PySem PySem.Spec PyProof.Rows L2 Al
theorem signs_of {w : Str} (h : ∀ c ∈ w.cps.toList, c ∈ ("abcdefghijklmnopqrstuvwxyz0123456789" : Str).cps.toList) : ∀ c ∈ w.cps.toList, Sign c := h
/-- first the letter -/
theorem names_1 {n : Nat} {s : Spr} {m : Int} {ns : List Str} {c3 c4 c5 : Cell} (h : SprOk n s) (hn : n ≤ 1000000) :
    ∃ x s', sSet 3 (fClS Φ__law_pick 2 (qSpr 0 (qCons (fApp bLstStr (aCons (pE (fC (.str "abgkmqvz"))) aNil)) qNil))) (nE s m ns c3 c4 c5) = some (.nx, nE s' m ns (.frz (.str x)) c4 c5) ∧ Nm 1 x ∧ SprOk (n + 1) s' := by
  obtain ⟨c, s', e1, e2, e3⟩ := pick_chars (w := "abgkmqvz") h hn (by decide +kernel) Letter (by decide +kernel)
  refine ⟨⟨#[c]⟩, s', ?_, one_nm e2, e3⟩
  have hz : ("abgkmqvz" : Str).length ≤ 16777216 := by decide +kernel
  refine ev_set (r := fz (.str ⟨#[c]⟩)) ?_
  (repeat' (first | with_reducible assumption | with_reducible apply ev_seq | with_reducible apply ev_sifF | with_reducible apply ev_set | with_reducible apply ev_ret | with_reducible apply ev_bin | with_reducible apply ev_pE | with_reducible apply ev_pE' | with_reducible exact ev_fC | with_reducible apply ev_tOrF | with_reducible apply ev_tAnT | with_reducible apply ev_tNt | with_reducible apply ev_tEb | with_reducible apply ev_app | with_reducible exact ev_aNil | with_reducible apply ev_aCons | with_reducible apply ev_kCons | with_reducible exact ev_qNil | with_reducible apply ev_qSpr | with_reducible apply ev_qCons | with_reducible apply ev_cl | with_reducible apply ev_clS | with_reducible apply ev_tup | with_reducible apply ev_lst | with_reducible apply ev_ifT | with_reducible apply ev_chainT | with_reducible exact ev_nx | with_reducible apply ev_sprT0 | with_reducible apply ev_sprT1 | with_reducible apply ev_sprT2 | with_reducible apply ev_spr0 | with_reducible apply ev_spr1 | with_reducible apply ev_spr2 | with_reducible apply ev_for | with_reducible apply ev_items | with_reducible apply ev_comp | with_reducible apply ev_isi | with_reducible apply ev_strs | with_reducible apply ev_pVarF | with_reducible apply ev_fVar | with_reducible apply ev_rng1 | with_reducible exact ev_iLe | with_reducible exact ev_iLt | with_reducible exact ev_iGe | with_reducible exact ev_iGt | with_reducible exact ev_iAdd | with_reducible exact ev_iSub | with_reducible apply ev_iMul | with_reducible apply ev_iMod | with_reducible apply ev_iDiv | with_reducible apply ev_iPow | with_reducible exact ev_bInt | with_reducible exact ev_bLenS | with_reducible exact ev_bLenU | with_reducible exact ev_bLenD | with_reducible apply ev_bLenT | with_reducible exact ev_bLstS | with_reducible exact ev_bLstD | with_reducible apply ev_bLstStr | with_reducible apply ev_xLst | with_reducible apply ev_xTup | with_reducible assumption | ((with_reducible show _[_]? = some _); rfl) | ((with_reducible show tyN _ = some _); rfl) | ((with_reducible show compF _ _ _ _ _ _ = some _); assumption) | ((with_reducible show forF _ _ _ _ = some _); assumption) | ((with_reducible show ∀ k ∈ Tg.slots _, k ∈ _); simp [Tg.slots]) | ((with_reducible show List.length _ = _); rfl) | ((with_reducible show List.any _ _ = _); rfl)))
theorem names_2 {n : Nat} {s : Spr} {m : Int} {ns : List Str} {x : Str} {c4 c5 : Cell} (h : SprOk n s) (hn : n ≤ 999000) (hx : Nm 1 x) (hns : ∀ y ∈ ns, Nm 7 y) (hl : ns.length ≤ 100) :
    ∃ x' s', sIf (tAn (tTruO 2) (tEb (fBin gEq (pE (fClS Φ__law_draw 2 (qSpr 0 (qCons (fC (.int 3)) qNil)))) (pE (fC (.int 0)))))) (sSet 3 (fBin sAdd (pE (fSl slStr (pE (fClS Φ__law_pick 2 (qSpr 0 (qCons (fApp bLstD (aCons (pVar 2) aNil)) qNil)))) oNo (oSo (fC (.int 6))))) (pE (fClS Φ__law_pick 2 (qSpr 0 (qCons (fLst (kCons (fC (.str "0")) (kCons (fC (.str "9")) (kCons (fC (.str "a")) (kCons (fC (.str "z")) (kCons (fC (.str "m")) aNil)))))) qNil)))))) sNx
      (nE s m ns (.frz (.str x)) c4 c5) = some (.nx, nE s' m ns (.frz (.str x')) c4 c5) ∧ Nm 7 x' ∧ SprOk (n + 3) s' := by
  by_cases he : ns = []
  · subst he
    refine ⟨x, s, ?_, hx.up (by decide), h.up (by omega)⟩
    exact ev_sifF (x := false) (S1 := some s) (ev_tAnF (x := false) (S1 := some s) rfl rfl) rfl rfl
  have ht : tTruO 2 (nE s m ns (.frz (.str x)) c4 c5) = some (true, some s) := by
    rw [tru_nd (ns := ns) rfl]
    cases ns with
    | nil => exact absurd rfl he
    | cons => rfl
  obtain ⟨d, s1, e1, e2, e3, e4⟩ := draw_ok (m := 3) h (by omega) (by decide) (by decide)
  have hd : tEb (fBin gEq (pE (fClS Φ__law_draw 2 (qSpr 0 (qCons (fC (.int 3)) qNil)))) (pE (fC (.int 0)))) (nE s m ns (.frz (.str x)) c4 c5) = some (decide (d = 0), some s1) := by
    refine ev_tEb (ev_bin (r := fz (.bl (decide (d = 0)))) (d1 := .int d) (d2 := .int 0) (S1 := some s1) ?_ ?_ rfl)
    · (repeat' (first | with_reducible assumption | with_reducible apply ev_seq | with_reducible apply ev_sifF | with_reducible apply ev_set | with_reducible apply ev_ret | with_reducible apply ev_bin | with_reducible apply ev_pE | with_reducible apply ev_pE' | with_reducible exact ev_fC | with_reducible apply ev_tOrF | with_reducible apply ev_tAnT | with_reducible apply ev_tNt | with_reducible apply ev_tEb | with_reducible apply ev_app | with_reducible exact ev_aNil | with_reducible apply ev_aCons | with_reducible apply ev_kCons | with_reducible exact ev_qNil | with_reducible apply ev_qSpr | with_reducible apply ev_qCons | with_reducible apply ev_cl | with_reducible apply ev_clS | with_reducible apply ev_tup | with_reducible apply ev_lst | with_reducible apply ev_ifT | with_reducible apply ev_chainT | with_reducible exact ev_nx | with_reducible apply ev_sprT0 | with_reducible apply ev_sprT1 | with_reducible apply ev_sprT2 | with_reducible apply ev_spr0 | with_reducible apply ev_spr1 | with_reducible apply ev_spr2 | with_reducible apply ev_for | with_reducible apply ev_items | with_reducible apply ev_comp | with_reducible apply ev_isi | with_reducible apply ev_strs | with_reducible apply ev_pVarF | with_reducible apply ev_fVar | with_reducible apply ev_rng1 | with_reducible exact ev_iLe | with_reducible exact ev_iLt | with_reducible exact ev_iGe | with_reducible exact ev_iGt | with_reducible exact ev_iAdd | with_reducible exact ev_iSub | with_reducible apply ev_iMul | with_reducible apply ev_iMod | with_reducible apply ev_iDiv | with_reducible apply ev_iPow | with_reducible exact ev_bInt | with_reducible exact ev_bLenS | with_reducible exact ev_bLenU | with_reducible exact ev_bLenD | with_reducible apply ev_bLenT | with_reducible exact ev_bLstS | with_reducible exact ev_bLstD | with_reducible apply ev_bLstStr | with_reducible apply ev_xLst | with_reducible apply ev_xTup | with_reducible assumption | ((with_reducible show _[_]? = some _); rfl) | ((with_reducible show tyN _ = some _); rfl) | ((with_reducible show compF _ _ _ _ _ _ = some _); assumption) | ((with_reducible show forF _ _ _ _ = some _); assumption) | ((with_reducible show ∀ k ∈ Tg.slots _, k ∈ _); simp [Tg.slots]) | ((with_reducible show List.length _ = _); rfl) | ((with_reducible show List.any _ _ = _); rfl)))
    · (repeat' (first | with_reducible assumption | with_reducible apply ev_seq | with_reducible apply ev_sifF | with_reducible apply ev_set | with_reducible apply ev_ret | with_reducible apply ev_bin | with_reducible apply ev_pE | with_reducible apply ev_pE' | with_reducible exact ev_fC | with_reducible apply ev_tOrF | with_reducible apply ev_tAnT | with_reducible apply ev_tNt | with_reducible apply ev_tEb | with_reducible apply ev_app | with_reducible exact ev_aNil | with_reducible apply ev_aCons | with_reducible apply ev_kCons | with_reducible exact ev_qNil | with_reducible apply ev_qSpr | with_reducible apply ev_qCons | with_reducible apply ev_cl | with_reducible apply ev_clS | with_reducible apply ev_tup | with_reducible apply ev_lst | with_reducible apply ev_ifT | with_reducible apply ev_chainT | with_reducible exact ev_nx | with_reducible apply ev_sprT0 | with_reducible apply ev_sprT1 | with_reducible apply ev_sprT2 | with_reducible apply ev_spr0 | with_reducible apply ev_spr1 | with_reducible apply ev_spr2 | with_reducible apply ev_for | with_reducible apply ev_items | with_reducible apply ev_comp | with_reducible apply ev_isi | with_reducible apply ev_strs | with_reducible apply ev_pVarF | with_reducible apply ev_fVar | with_reducible apply ev_rng1 | with_reducible exact ev_iLe | with_reducible exact ev_iLt | with_reducible exact ev_iGe | with_reducible exact ev_iGt | with_reducible exact ev_iAdd | with_reducible exact ev_iSub | with_reducible apply ev_iMul | with_reducible apply ev_iMod | with_reducible apply ev_iDiv | with_reducible apply ev_iPow | with_reducible exact ev_bInt | with_reducible exact ev_bLenS | with_reducible exact ev_bLenU | with_reducible exact ev_bLenD | with_reducible apply ev_bLenT | with_reducible exact ev_bLstS | with_reducible exact ev_bLstD | with_reducible apply ev_bLstStr | with_reducible apply ev_xLst | with_reducible apply ev_xTup | with_reducible assumption | ((with_reducible show _[_]? = some _); rfl) | ((with_reducible show tyN _ = some _); rfl) | ((with_reducible show compF _ _ _ _ _ _ = some _); assumption) | ((with_reducible show forF _ _ _ _ = some _); assumption) | ((with_reducible show ∀ k ∈ Tg.slots _, k ∈ _); simp [Tg.slots]) | ((with_reducible show List.length _ = _); rfl) | ((with_reducible show List.any _ _ = _); rfl)))
  by_cases hz : d = 0
  · obtain ⟨y, s2, f1, f2, f3⟩ := pick_ok (ds := DK.keys (nd ns (.int 1))) e4 (by omega) (by rw [keys_nd]; simpa using he) (by rw [keys_nd]; simp; omega)
    rw [keys_nd] at f2
    obtain ⟨y, hy, rfl⟩ := List.mem_map.mp f2
    obtain ⟨z, s3, g1, g2, g3⟩ := pick_ok (ds := [.str "0", .str "9", .str "a", .str "z", .str "m"]) f3 (by omega) (by simp) (by decide)
    have hzc : ∃ c, z = .str ⟨#[c]⟩ ∧ Sign c := by
      have : ∀ z ∈ ([.str "0", .str "9", .str "a", .str "z", .str "m"] : List D), ∃ c, z = .str ⟨#[c]⟩ ∧ Sign c := by
        intro z hz
        simp only [List.mem_cons, List.not_mem_nil, or_false] at hz
        rcases hz with rfl | rfl | rfl | rfl | rfl
        · exact ⟨48, rfl, by decide +kernel⟩
        · exact ⟨57, rfl, by decide +kernel⟩
        · exact ⟨97, rfl, by decide +kernel⟩
        · exact ⟨122, rfl, by decide +kernel⟩
        · exact ⟨109, rfl, by decide +kernel⟩
      exact this z g2
    obtain ⟨c, rfl, hc⟩ := hzc
    have hny := hns y hy
    have hcut := hny.cut (k := 6) (by decide)
    refine ⟨cutN 6 y ++ ⟨#[c]⟩, s3, ?_, hcut.app hc, g3⟩
    refine ev_sifT (x := decide (d = 0)) (S1 := some s1) (ev_tAnT (S1 := some s) ht rfl hd) (decide_eq_true hz) ?_
    refine ev_set (r := fz (.str (cutN 6 y ++ ⟨#[c]⟩))) (S1 := some s3) ?_
    refine ev_bin (d1 := .str (cutN 6 y)) (d2 := .str ⟨#[c]⟩) (S1 := some s2) (ev_pE (r := fz _) (ev_sl (d := .str y) (x := none) (y := some ((6 : Nat) : Int)) (S1 := some s2) (S2 := some s2) ?_ ev_oNo ?_ (ev_slStr (by have := hny.len.2; omega)))) ?_ (ev_sAdd (by have := hcut.len.2; omega) (Nat.le_of_ble_eq_true rfl))
    · have hv : pVar 2 (nE s1 m ns (.frz (.str x)) c4 c5) = some (.dk (nd ns (.int 1)), some s1) := ev_pVarO rfl
      (repeat' (first | with_reducible assumption | with_reducible apply ev_seq | with_reducible apply ev_sifF | with_reducible apply ev_set | with_reducible apply ev_ret | with_reducible apply ev_bin | with_reducible apply ev_pE | with_reducible apply ev_pE' | with_reducible exact ev_fC | with_reducible apply ev_tOrF | with_reducible apply ev_tAnT | with_reducible apply ev_tNt | with_reducible apply ev_tEb | with_reducible apply ev_app | with_reducible exact ev_aNil | with_reducible apply ev_aCons | with_reducible apply ev_kCons | with_reducible exact ev_qNil | with_reducible apply ev_qSpr | with_reducible apply ev_qCons | with_reducible apply ev_cl | with_reducible apply ev_clS | with_reducible apply ev_tup | with_reducible apply ev_lst | with_reducible apply ev_ifT | with_reducible apply ev_chainT | with_reducible exact ev_nx | with_reducible apply ev_sprT0 | with_reducible apply ev_sprT1 | with_reducible apply ev_sprT2 | with_reducible apply ev_spr0 | with_reducible apply ev_spr1 | with_reducible apply ev_spr2 | with_reducible apply ev_for | with_reducible apply ev_items | with_reducible apply ev_comp | with_reducible apply ev_isi | with_reducible apply ev_strs | with_reducible apply ev_pVarF | with_reducible apply ev_fVar | with_reducible apply ev_rng1 | with_reducible exact ev_iLe | with_reducible exact ev_iLt | with_reducible exact ev_iGe | with_reducible exact ev_iGt | with_reducible exact ev_iAdd | with_reducible exact ev_iSub | with_reducible apply ev_iMul | with_reducible apply ev_iMod | with_reducible apply ev_iDiv | with_reducible apply ev_iPow | with_reducible exact ev_bInt | with_reducible exact ev_bLenS | with_reducible exact ev_bLenU | with_reducible exact ev_bLenD | with_reducible apply ev_bLenT | with_reducible exact ev_bLstS | with_reducible exact ev_bLstD | with_reducible apply ev_bLstStr | with_reducible apply ev_xLst | with_reducible apply ev_xTup | with_reducible assumption | ((with_reducible show _[_]? = some _); rfl) | ((with_reducible show tyN _ = some _); rfl) | ((with_reducible show compF _ _ _ _ _ _ = some _); assumption) | ((with_reducible show forF _ _ _ _ = some _); assumption) | ((with_reducible show ∀ k ∈ Tg.slots _, k ∈ _); simp [Tg.slots]) | ((with_reducible show List.length _ = _); rfl) | ((with_reducible show List.any _ _ = _); rfl)))
    · exact ev_oSo rfl
    · (repeat' (first | with_reducible assumption | with_reducible apply ev_seq | with_reducible apply ev_sifF | with_reducible apply ev_set | with_reducible apply ev_ret | with_reducible apply ev_bin | with_reducible apply ev_pE | with_reducible apply ev_pE' | with_reducible exact ev_fC | with_reducible apply ev_tOrF | with_reducible apply ev_tAnT | with_reducible apply ev_tNt | with_reducible apply ev_tEb | with_reducible apply ev_app | with_reducible exact ev_aNil | with_reducible apply ev_aCons | with_reducible apply ev_kCons | with_reducible exact ev_qNil | with_reducible apply ev_qSpr | with_reducible apply ev_qCons | with_reducible apply ev_cl | with_reducible apply ev_clS | with_reducible apply ev_tup | with_reducible apply ev_lst | with_reducible apply ev_ifT | with_reducible apply ev_chainT | with_reducible exact ev_nx | with_reducible apply ev_sprT0 | with_reducible apply ev_sprT1 | with_reducible apply ev_sprT2 | with_reducible apply ev_spr0 | with_reducible apply ev_spr1 | with_reducible apply ev_spr2 | with_reducible apply ev_for | with_reducible apply ev_items | with_reducible apply ev_comp | with_reducible apply ev_isi | with_reducible apply ev_strs | with_reducible apply ev_pVarF | with_reducible apply ev_fVar | with_reducible apply ev_rng1 | with_reducible exact ev_iLe | with_reducible exact ev_iLt | with_reducible exact ev_iGe | with_reducible exact ev_iGt | with_reducible exact ev_iAdd | with_reducible exact ev_iSub | with_reducible apply ev_iMul | with_reducible apply ev_iMod | with_reducible apply ev_iDiv | with_reducible apply ev_iPow | with_reducible exact ev_bInt | with_reducible exact ev_bLenS | with_reducible exact ev_bLenU | with_reducible exact ev_bLenD | with_reducible apply ev_bLenT | with_reducible exact ev_bLstS | with_reducible exact ev_bLstD | with_reducible apply ev_bLstStr | with_reducible apply ev_xLst | with_reducible apply ev_xTup | with_reducible assumption | ((with_reducible show _[_]? = some _); rfl) | ((with_reducible show tyN _ = some _); rfl) | ((with_reducible show compF _ _ _ _ _ _ = some _); assumption) | ((with_reducible show forF _ _ _ _ = some _); assumption) | ((with_reducible show ∀ k ∈ Tg.slots _, k ∈ _); simp [Tg.slots]) | ((with_reducible show List.length _ = _); rfl) | ((with_reducible show List.any _ _ = _); rfl)))
      all_goals decide
  · refine ⟨x, s1, ?_, hx.up (by decide), e4.up (by omega)⟩
    exact ev_sifF (x := decide (d = 0)) (S1 := some s1) (ev_tAnT (S1 := some s) ht rfl hd) (decide_eq_false hz) rfl
/-- more signs -/
theorem names_3 {n : Nat} {s : Spr} {m : Int} {ns : List Str} {x : Str} {c4 c5 : Cell} (h : SprOk n s) (hn : n ≤ 999000) (hx : Nm 7 x) :
    ∃ x' s' c', sFor (fRng1 (aCons (pE (fClS Φ__law_draw 2 (qSpr 0 (qCons (fC (.int 4)) qNil)))) aNil)) (.nm 4) (sSet 3 (fBin sAdd (pVar 3) (pE (fClS Φ__law_pick 2 (qSpr 0 (qCons (fApp bLstStr (aCons (pE (fC (.str "aehinsuxyz057"))) aNil)) qNil))))))
      (nE s m ns (.frz (.str x)) c4 c5) = some (.nx, nE s' m ns (.frz (.str x')) c' c5) ∧ Nm 10 x' ∧ SprOk (n + 4) s' := by
  obtain ⟨d, s1, e1, e2, e3, e4⟩ := draw_ok (m := 4) h (by omega) (by decide) (by decide)
  have hr : fRng1 (aCons (pE (fClS Φ__law_draw 2 (qSpr 0 (qCons (fC (.int 4)) qNil)))) aNil) (nE s m ns (.frz (.str x)) c4 c5) = some (rngD 0 d.toNat, some s1) := by
    refine ev_rng1 (j := d) ?_ ⟨by omega, by omega⟩
    (repeat' (first | with_reducible assumption | with_reducible apply ev_seq | with_reducible apply ev_sifF | with_reducible apply ev_set | with_reducible apply ev_ret | with_reducible apply ev_bin | with_reducible apply ev_pE | with_reducible apply ev_pE' | with_reducible exact ev_fC | with_reducible apply ev_tOrF | with_reducible apply ev_tAnT | with_reducible apply ev_tNt | with_reducible apply ev_tEb | with_reducible apply ev_app | with_reducible exact ev_aNil | with_reducible apply ev_aCons | with_reducible apply ev_kCons | with_reducible exact ev_qNil | with_reducible apply ev_qSpr | with_reducible apply ev_qCons | with_reducible apply ev_cl | with_reducible apply ev_clS | with_reducible apply ev_tup | with_reducible apply ev_lst | with_reducible apply ev_ifT | with_reducible apply ev_chainT | with_reducible exact ev_nx | with_reducible apply ev_sprT0 | with_reducible apply ev_sprT1 | with_reducible apply ev_sprT2 | with_reducible apply ev_spr0 | with_reducible apply ev_spr1 | with_reducible apply ev_spr2 | with_reducible apply ev_for | with_reducible apply ev_items | with_reducible apply ev_comp | with_reducible apply ev_isi | with_reducible apply ev_strs | with_reducible apply ev_pVarF | with_reducible apply ev_fVar | with_reducible apply ev_rng1 | with_reducible exact ev_iLe | with_reducible exact ev_iLt | with_reducible exact ev_iGe | with_reducible exact ev_iGt | with_reducible exact ev_iAdd | with_reducible exact ev_iSub | with_reducible apply ev_iMul | with_reducible apply ev_iMod | with_reducible apply ev_iDiv | with_reducible apply ev_iPow | with_reducible exact ev_bInt | with_reducible exact ev_bLenS | with_reducible exact ev_bLenU | with_reducible exact ev_bLenD | with_reducible apply ev_bLenT | with_reducible exact ev_bLstS | with_reducible exact ev_bLstD | with_reducible apply ev_bLstStr | with_reducible apply ev_xLst | with_reducible apply ev_xTup | with_reducible assumption | ((with_reducible show _[_]? = some _); rfl) | ((with_reducible show tyN _ = some _); rfl) | ((with_reducible show compF _ _ _ _ _ _ = some _); assumption) | ((with_reducible show forF _ _ _ _ = some _); assumption) | ((with_reducible show ∀ k ∈ Tg.slots _, k ∈ _); simp [Tg.slots]) | ((with_reducible show List.length _ = _); rfl) | ((with_reducible show List.any _ _ = _); rfl)))
  obtain ⟨e', f1, s', x', c', f2, f3, f4⟩ := forF_list (T := .nm 4) (b := sSet 3 (fBin sAdd (pVar 3) (pE (fClS Φ__law_pick 2 (qSpr 0 (qCons (fApp bLstStr (aCons (pE (fC (.str "aehinsuxyz057"))) aNil)) qNil))))))
    (fun ds e => ∃ s' x' c', e = nE s' m ns (.frz (.str x')) c' c5 ∧ Nm (10 - ds.length) x' ∧ ds.length ≤ 3 ∧ SprOk (n + 4 - ds.length) s') (fun d ds e ⟨s', x', c', a1, a2, a3, a4⟩ => by
      subst a1
      simp only [List.length_cons] at a2 a3 a4
      obtain ⟨c, s2, g1, g2, g3⟩ := pick_chars (w := "aehinsuxyz057") a4 (by omega) (by decide +kernel) Sign (by decide +kernel)
      have hz : ("aehinsuxyz057" : Str).length ≤ 16777216 := by decide +kernel
      refine ⟨nE s' m ns (.frz (.str x')) (.frz d) c5, nE s2 m ns (.frz (.str (x' ++ ⟨#[c]⟩))) (.frz d) c5, rfl, ?_, s2, _, _, rfl, ?_, by omega, ?_⟩
      · refine ev_set (r := fz (.str (x' ++ ⟨#[c]⟩))) (S1 := some s2) ?_
        refine ev_bin (d1 := .str x') (d2 := .str ⟨#[c]⟩) (S1 := some s') (ev_pVarF rfl) ?_ (ev_sAdd (by have := a2.len.2; omega) (Nat.le_of_ble_eq_true rfl))
        (repeat' (first | with_reducible assumption | with_reducible apply ev_seq | with_reducible apply ev_sifF | with_reducible apply ev_set | with_reducible apply ev_ret | with_reducible apply ev_bin | with_reducible apply ev_pE | with_reducible apply ev_pE' | with_reducible exact ev_fC | with_reducible apply ev_tOrF | with_reducible apply ev_tAnT | with_reducible apply ev_tNt | with_reducible apply ev_tEb | with_reducible apply ev_app | with_reducible exact ev_aNil | with_reducible apply ev_aCons | with_reducible apply ev_kCons | with_reducible exact ev_qNil | with_reducible apply ev_qSpr | with_reducible apply ev_qCons | with_reducible apply ev_cl | with_reducible apply ev_clS | with_reducible apply ev_tup | with_reducible apply ev_lst | with_reducible apply ev_ifT | with_reducible apply ev_chainT | with_reducible exact ev_nx | with_reducible apply ev_sprT0 | with_reducible apply ev_sprT1 | with_reducible apply ev_sprT2 | with_reducible apply ev_spr0 | with_reducible apply ev_spr1 | with_reducible apply ev_spr2 | with_reducible apply ev_for | with_reducible apply ev_items | with_reducible apply ev_comp | with_reducible apply ev_isi | with_reducible apply ev_strs | with_reducible apply ev_pVarF | with_reducible apply ev_fVar | with_reducible apply ev_rng1 | with_reducible exact ev_iLe | with_reducible exact ev_iLt | with_reducible exact ev_iGe | with_reducible exact ev_iGt | with_reducible exact ev_iAdd | with_reducible exact ev_iSub | with_reducible apply ev_iMul | with_reducible apply ev_iMod | with_reducible apply ev_iDiv | with_reducible apply ev_iPow | with_reducible exact ev_bInt | with_reducible exact ev_bLenS | with_reducible exact ev_bLenU | with_reducible exact ev_bLenD | with_reducible apply ev_bLenT | with_reducible exact ev_bLstS | with_reducible exact ev_bLstD | with_reducible apply ev_bLstStr | with_reducible apply ev_xLst | with_reducible apply ev_xTup | with_reducible assumption | ((with_reducible show _[_]? = some _); rfl) | ((with_reducible show tyN _ = some _); rfl) | ((with_reducible show compF _ _ _ _ _ _ = some _); assumption) | ((with_reducible show forF _ _ _ _ = some _); assumption) | ((with_reducible show ∀ k ∈ Tg.slots _, k ∈ _); simp [Tg.slots]) | ((with_reducible show List.length _ = _); rfl) | ((with_reducible show List.any _ _ = _); rfl)))
      · have := a2.app g2
        exact this.up (by omega)
      · have : n + 4 - (ds.length + 1) + 1 = n + 4 - ds.length := by omega
        rw [← this]
        exact g3) (rngD 0 d.toNat) (nE s1 m ns (.frz (.str x)) c4 c5) ⟨s1, x, c4, rfl, by
          have hl : (rngD 0 d.toNat).length = d.toNat := by simp [rngD]
          rw [hl]
          refine ⟨hx.up (by omega), by omega, e4.up (by omega)⟩⟩
  subst f2
  exact ⟨x', s', c', ev_for hr f1, f3, f4.2⟩
def signs36 : List Nat := ("0123456789abcdefghijklmnopqrstuvwxyz" : Str).cps.toList
theorem names_4 {s : Spr} {m : Int} {ns : List Str} {c4 : Cell} : ∀ (cs : List Nat) {x : Str} {c5 : Cell}, (∀ c ∈ cs, Sign c) → Nm 7 x → ∃ c',
    forF (.nm 5) (sIf (tEb (fDin false (pVar 3) (pVar 2))) (sSet 3 (fBin sAdd (pE (fSl slStr (pVar 3) oNo (oSo (fC (.int 6))))) (pVar 5))) sNx) (cs.map fun c => .str ⟨#[c]⟩)
      (nE s m ns (.frz (.str x)) c4 c5) = some (.nx, nE s m ns (.frz (.str (cs.foldl (stp ns) x))) c4 c')
  | [], x, c5, _, _ => ⟨c5, rfl⟩
  | c :: cs, x, c5, h, hx => by
    have hst : Nm 7 (stp ns x c) := stp_nm (cs := [c]) (fun c' h' => by simp at h'; subst h'; exact h _ List.mem_cons_self) hx
    obtain ⟨c', ih⟩ := names_4 cs (x := stp ns x c) (c5 := .frz (.str ⟨#[c]⟩)) (fun c' h' => h c' (List.mem_cons_of_mem _ h')) hst
    refine ⟨c', ?_⟩
    have hin : tEb (fDin false (pVar 3) (pVar 2)) (nE s m ns (.frz (.str x)) c4 (.frz (.str ⟨#[c]⟩))) = some (decide (x ∈ ns), some s) := ev_tEb (ev_dinN (S1 := some s) (ev_pVarF rfl) (ev_pVarO (d := .dk (nd ns (.int 1))) rfl))
    have hb : (sIf (tEb (fDin false (pVar 3) (pVar 2))) (sSet 3 (fBin sAdd (pE (fSl slStr (pVar 3) oNo (oSo (fC (.int 6))))) (pVar 5))) sNx) (nE s m ns (.frz (.str x)) c4 (.frz (.str ⟨#[c]⟩))) = some (.nx, nE s m ns (.frz (.str (stp ns x c))) c4 (.frz (.str ⟨#[c]⟩))) := by
      unfold stp
      by_cases hm : x ∈ ns
      · rw [if_pos hm]
        have hcut := hx.cut (k := 6) (by decide)
        refine ev_sifT hin (decide_eq_true hm) ?_
        refine ev_set (r := fz (.str (cutN 6 x ++ ⟨#[c]⟩))) (S1 := some s) ?_
        exact ev_bin (d1 := .str (cutN 6 x)) (d2 := .str ⟨#[c]⟩) (S1 := some s) (ev_pE (r := fz _) (ev_sl (d := .str x) (x := none) (y := some ((6 : Nat) : Int)) (S1 := some s) (S2 := some s) (ev_pVarF rfl) ev_oNo (ev_oSo rfl) (ev_slStr (by have := hx.len.2; omega)))) (ev_pVarF rfl) (ev_sAdd (by have := hcut.len.2; omega) (Nat.le_of_ble_eq_true rfl))
      · rw [if_neg hm]
        exact ev_sifF hin (decide_eq_false hm) rfl
    rw [List.map_cons, forF]
    show ((some (nE s m ns (.frz (.str x)) c4 (.frz (.str ⟨#[c]⟩)))).bind _) = _
    rw [Option.bind_some, hb, Option.bind_some]
    exact ih
noncomputable def b_names : FS := (sSeq (sSet 3 (fClS Φ__law_pick 2 (qSpr 0 (qCons (fApp bLstStr (aCons (pE (fC (.str "abgkmqvz"))) aNil)) qNil)))) (sSeq (sIf (tAn (tTruO 2) (tEb (fBin gEq (pE (fClS Φ__law_draw 2 (qSpr 0 (qCons (fC (.int 3)) qNil)))) (pE (fC (.int 0)))))) (sSet 3 (fBin sAdd (pE (fSl slStr (pE (fClS Φ__law_pick 2 (qSpr 0 (qCons (fApp bLstD (aCons (pVar 2) aNil)) qNil)))) oNo (oSo (fC (.int 6))))) (pE (fClS Φ__law_pick 2 (qSpr 0 (qCons (fLst (kCons (fC (.str "0")) (kCons (fC (.str "9")) (kCons (fC (.str "a")) (kCons (fC (.str "z")) (kCons (fC (.str "m")) aNil)))))) qNil)))))) sNx) (sSeq (sFor (fRng1 (aCons (pE (fClS Φ__law_draw 2 (qSpr 0 (qCons (fC (.int 4)) qNil)))) aNil)) (.nm 4) (sSet 3 (fBin sAdd (pVar 3) (pE (fClS Φ__law_pick 2 (qSpr 0 (qCons (fApp bLstStr (aCons (pE (fC (.str "aehinsuxyz057"))) aNil)) qNil))))))) (sSeq (sSet 3 (fSl slStr (pVar 3) oNo (oSo (fC (.int 7))))) (sSeq (sFor (iStrs (fC (.str "0123456789abcdefghijklmnopqrstuvwxyz"))) (.nm 5) (sIf (tEb (fDin false (pVar 3) (pVar 2))) (sSet 3 (fBin sAdd (pE (fSl slStr (pVar 3) oNo (oSo (fC (.int 6))))) (pVar 5))) sNx)) (sSeq (sSet 3 (fIf (tEb (fDin false (pVar 3) (pVar 2))) (fBin sAdd (pE (fC (.str "n"))) (pE (fApp bStr (aCons (pE (fApp bLenD (aCons (pVar 2) aNil))) aNil)))) (fVar 3))) (sSt 2 puD (pVar 3) (fC (.int 1)))))))))
theorem names_b {n : Nat} {s : Spr} {m : Int} {ns : List Str} {c3 c4 c5 : Cell} (h : SprOk n s) (hn : n ≤ 900000) (hns : ∀ y ∈ ns, Nm 7 y) (hl : ns.length ≤ 35) :
    ∃ x s' c3' c4' c5', b_names (nE s m ns c3 c4 c5) = some (.nx, nE s' m (ns ++ [x]) c3' c4' c5') ∧ Nm 7 x ∧ x ∉ ns ∧ SprOk (n + 8) s' := by
  obtain ⟨x1, s1, a1, a2, a3⟩ := names_1 (m := m) (ns := ns) (c3 := c3) (c4 := c4) (c5 := c5) h (by omega)
  obtain ⟨x2, s2, b1, b2, b3⟩ := names_2 (m := m) (ns := ns) (c4 := c4) (c5 := c5) a3 (by omega) a2 hns (by omega)
  obtain ⟨x3, s3, c4', d1, d2, d3⟩ := names_3 (m := m) (ns := ns) (c4 := c4) (c5 := c5) b3 (by omega) b2
  have hcut := d2.cut (k := 7) (by decide)
  have hsg : ∀ c ∈ signs36, Sign c := by unfold signs36; decide +kernel
  obtain ⟨c5', f1⟩ := names_4 (s := s3) (m := m) (ns := ns) (c4 := c4') signs36 (x := cutN 7 x3) (c5 := c5) hsg hcut
  have h36 : signs36.length = 36 := by unfold signs36; decide +kernel
  have hfree : signs36.foldl (stp ns) (cutN 7 x3) ∉ ns := stp_free (by unfold signs36; decide +kernel) (by omega)
  have hnm : Nm 7 (signs36.foldl (stp ns) (cutN 7 x3)) := stp_nm hsg hcut
  generalize signs36.foldl (stp ns) (cutN 7 x3) = x4 at f1 hfree hnm
  refine ⟨x4, s3, .frz (.str x4), c4', c5', ?_, hnm, hfree, d3.up (by omega)⟩
  unfold b_names
  refine ev_seq a1 (ev_seq b1 (ev_seq d1 ?_))
  refine ev_seq (e1 := nE s3 m ns (.frz (.str (cutN 7 x3))) c4' c5) ?_ ?_
  · refine ev_set (r := fz (.str (cutN 7 x3))) (S1 := some s3) ?_
    exact ev_sl (d := .str x3) (x := none) (y := some ((7 : Nat) : Int)) (S1 := some s3) (S2 := some s3) (ev_pVarF rfl) ev_oNo (ev_oSo rfl) (ev_slStr (by have := d2.len.2; omega))
  refine ev_seq (e1 := nE s3 m ns (.frz (.str x4)) c4' c5') ?_ ?_
  · exact ev_for (S1 := some s3) (ds := signs36.map fun c => .str ⟨#[c]⟩) rfl f1
  have hin : tEb (fDin false (pVar 3) (pVar 2)) (nE s3 m ns (.frz (.str x4)) c4' c5') = some (decide (x4 ∈ ns), some s3) := ev_tEb (ev_dinN (S1 := some s3) (ev_pVarF rfl) (ev_pVarO (d := .dk (nd ns (.int 1))) rfl))
  refine ev_seq (e1 := nE s3 m ns (.frz (.str x4)) c4' c5') ?_ ?_
  · refine ev_set (r := fz (.str x4)) (S1 := some s3) ?_
    exact ev_ifF hin (decide_eq_false hfree) (ev_fVar rfl)
  · exact ev_stNew (r := fz (.int 1)) (S1 := some s3) (S2 := some s3) rfl (ev_pVarF rfl) rfl hfree (by omega)
theorem names_w {m : Nat} (hm : m ≤ 35) : ∀ (k : Nat) (n : Nat) (s : Spr) (ns : List Str) (c3 c4 c5 : Cell), m + 1 - ns.length ≤ k → ns.length ≤ m → SprOk (n + 8 * ns.length) s → n ≤ 800000 → (∀ y ∈ ns, Nm 7 y) → ns.Nodup →
    ∃ (ns' : List Str) (s' : Spr) (c3' c4' c5' : Cell), sWh (tEb (fBin iLt (pE (fApp bLenD (aCons (pVar 2) aNil))) (pVar 1))) b_names k (nE s m ns c3 c4 c5) = some (.nx, nE s' m ns' c3' c4' c5') ∧ ns'.length = m ∧ (∀ y ∈ ns', Nm 7 y) ∧ ns'.Nodup ∧ SprOk (n + 8 * m) s'
  | 0, n, s, ns, c3, c4, c5, hk, hl, h, hn, h1, h2 => by omega
  | k + 1, n, s, ns, c3, c4, c5, hk, hl, h, hn, h1, h2 => by
    have hc : tEb (fBin iLt (pE (fApp bLenD (aCons (pVar 2) aNil))) (pVar 1)) (nE s m ns c3 c4 c5) = some (decide ((ns.length : Int) < m), some s) := by
      have hlen : bLenD [.dk (nd ns (.int 1))] = some (fz (.int ns.length)) := by
        rw [ev_bLenD]; simp [nd]
      have hv : pVar 2 (nE s m ns c3 c4 c5) = some (.dk (nd ns (.int 1)), some s) := ev_pVarO rfl
      refine ev_tEb (ev_bin (d1 := .int ns.length) (d2 := .int m) (S1 := some s) ?_ ?_ rfl)
      · refine ev_pE (r := fz (.int ns.length)) (ev_app (ds := [.dk (nd ns (.int 1))]) ?_ hlen)
        (repeat' (first | with_reducible assumption | with_reducible apply ev_seq | with_reducible apply ev_sifF | with_reducible apply ev_set | with_reducible apply ev_ret | with_reducible apply ev_bin | with_reducible apply ev_pE | with_reducible apply ev_pE' | with_reducible exact ev_fC | with_reducible apply ev_tOrF | with_reducible apply ev_tAnT | with_reducible apply ev_tNt | with_reducible apply ev_tEb | with_reducible apply ev_app | with_reducible exact ev_aNil | with_reducible apply ev_aCons | with_reducible apply ev_kCons | with_reducible exact ev_qNil | with_reducible apply ev_qSpr | with_reducible apply ev_qCons | with_reducible apply ev_cl | with_reducible apply ev_clS | with_reducible apply ev_tup | with_reducible apply ev_lst | with_reducible apply ev_ifT | with_reducible apply ev_chainT | with_reducible exact ev_nx | with_reducible apply ev_sprT0 | with_reducible apply ev_sprT1 | with_reducible apply ev_sprT2 | with_reducible apply ev_spr0 | with_reducible apply ev_spr1 | with_reducible apply ev_spr2 | with_reducible apply ev_for | with_reducible apply ev_items | with_reducible apply ev_comp | with_reducible apply ev_isi | with_reducible apply ev_strs | with_reducible apply ev_pVarF | with_reducible apply ev_fVar | with_reducible apply ev_rng1 | with_reducible exact ev_iLe | with_reducible exact ev_iLt | with_reducible exact ev_iGe | with_reducible exact ev_iGt | with_reducible exact ev_iAdd | with_reducible exact ev_iSub | with_reducible apply ev_iMul | with_reducible apply ev_iMod | with_reducible apply ev_iDiv | with_reducible apply ev_iPow | with_reducible exact ev_bInt | with_reducible exact ev_bLenS | with_reducible exact ev_bLenU | with_reducible exact ev_bLenD | with_reducible apply ev_bLenT | with_reducible exact ev_bLstS | with_reducible exact ev_bLstD | with_reducible apply ev_bLstStr | with_reducible apply ev_xLst | with_reducible apply ev_xTup | with_reducible assumption | ((with_reducible show _[_]? = some _); rfl) | ((with_reducible show tyN _ = some _); rfl) | ((with_reducible show compF _ _ _ _ _ _ = some _); assumption) | ((with_reducible show forF _ _ _ _ = some _); assumption) | ((with_reducible show ∀ k ∈ Tg.slots _, k ∈ _); simp [Tg.slots]) | ((with_reducible show List.length _ = _); rfl) | ((with_reducible show List.any _ _ = _); rfl)))
      · exact ev_pVarF rfl
    by_cases hd : ns.length < m
    · obtain ⟨x, s', c3', c4', c5', e1, e2, e3, e4⟩ := names_b (m := m) (ns := ns) (c3 := c3) (c4 := c4) (c5 := c5) h (by omega) h1 (by omega)
      obtain ⟨ns', s'', d3, d4, d5, f1, f2⟩ := names_w hm k n s' (ns ++ [x]) c3' c4' c5' (by simp; omega) (by simp; omega) (by simp; exact e4.up (by omega)) hn (fun y hy => by
        rcases List.mem_append.mp hy with hy | hy
        · exact h1 y hy
        · simp at hy; subst hy; exact e2) (List.nodup_append.mpr ⟨h2, by simp, fun a ha b hb => by simp at hb; subst hb; exact fun e => e3 (e ▸ ha)⟩)
      refine ⟨ns', s'', d3, d4, d5, ?_, f2⟩
      rw [sWh, hc]
      simp only [Option.bind_some]
      rw [if_pos (decide_eq_true (by omega))]
      show ((b_names (nE s m ns c3 c4 c5)).bind _) = _
      rw [e1]
      exact f1
    · refine ⟨ns, s, c3, c4, c5, ?_, by omega, h1, h2, h.up (by omega)⟩
      rw [sWh, hc]
      simp only [Option.bind_some]
      rw [if_neg (by simp; omega)]
      rfl
theorem names_ok {n : Nat} {s : Spr} {m : Nat} (h : SprOk n s) (hn : n ≤ 800000) (hm : m ≤ 35) :
    ∃ (ns : List Str) (s' : Spr), Φ__law_b_names (some s) [none, some (.int m)] = some (nw (.lst (ns.map .str)), some s') ∧ ns.length = m ∧ (∀ y ∈ ns, Nm 7 y) ∧ ns.Nodup ∧ SprOk (n + 8 * m) s' := by
  obtain ⟨ns, s', c3, c4, c5, e1, e2, e3, e4, e5⟩ := names_w hm 40 n s [] .no .no .no (by simp; omega) (by simp) (by simpa using h) hn (fun y hy => by cases hy) List.nodup_nil
  refine ⟨ns, s', ?_, e2, e3, e4, e5⟩
  apply ev_runS
  refine ⟨[.spr, .frz (.int m), .own (.dk (nd ns (.int 1))), c3, c4, c5], fun _ => none, ?_⟩
  show g__law_b_names ⟨some s, [.spr, .frz (.int m), .no, .no, .no, .no], fun _ => none⟩ = _
  unfold g__law_b_names
  refine ev_seq (e1 := nE s m [] .no .no .no) ?_ ?_
  · exact ev_set (r := nw (.dk [])) (S1 := some s) rfl
  refine ev_seq (e1 := nE s' m ns c3 c4 c5) e1 ?_
  refine ev_ret (S1 := some s') ?_
  have hv : pVar 2 (nE s' m ns c3 c4 c5) = some (.dk (nd ns (.int 1)), some s') := ev_pVarO rfl
  refine ev_app (ds := [.dk (nd ns (.int 1))]) (ev_aCons hv rfl) ?_
  rw [ev_bLstD, keys_nd]
end Al.Cm


set_option Elab.async false
set_option linter.all false
set_option maxRecDepth 100000
/-! Plain facts: shapes drawn. -/
namespace Al.Cm
open PySem PySem.Spec PyProof.Rows L2 Al
def nrm (g : Nat × Nat) : Nat × Nat := if g.1 ≤ g.2 then g else (g.2, g.1)
def prs (m : Nat) : List (Nat × Nat) := (List.range m).flatMap fun i => (List.range (m - (i + 1))).map fun k => (i, i + 1 + k)
def gD (g : Nat × Nat) : D := .tup [.int g.1, .int g.2]
abbrev sE (s : Spr) (m d r c : Int) (gs : List (Nat × Nat)) (c6 c7 c8 : Cell) : En := ⟨some s, [.spr, .frz (.int m), .frz (.int d), .frz (.int r), .frz (.int c), .own (.lst (gs.map gD)), c6, c7, c8], fun _ => none⟩
theorem eqI (i j : Int) : gEq (.int i) (.int j) = some (fz (.bl (decide (i = j)))) := rfl
section
variable {n : Nat} {s : Spr} {m d r c i j : Int} {gs : List (Nat × Nat)} {x : Bool}
theorem shape_1 (h : SprOk n s) (hn : n ≤ 1000000) (hr : 0 < r ∧ r ≤ 20) : ∃ x' s', sIf (tEb (fBin (lIn false) (pVar 2) (pE (fLst (kCons (fC (.int 1)) (kCons (fC (.int 2)) aNil)))))) (sSet 8 (fBin iGt (pE (fClS Φ__law_draw 2 (qSpr 0 (qCons (fIf (tEb (fBin gEq (pVar 2) (pE (fC (.int 1))))) (fVar 3) (fC (.int 2))) qNil)))) (pE (fC (.int 0))))) sNx
    (sE s m d r c gs (.frz (.int i)) (.frz (.int j)) (.frz (.bl x))) = some (.nx, sE s' m d r c gs (.frz (.int i)) (.frz (.int j)) (.frz (.bl x'))) ∧ SprOk (n + 1) s' := by
  have hc : tEb (fBin (lIn false) (pVar 2) (pE (fLst (kCons (fC (.int 1)) (kCons (fC (.int 2)) aNil))))) (sE s m d r c gs (.frz (.int i)) (.frz (.int j)) (.frz (.bl x))) = some (inD (.int d) [.int 1, .int 2], some s) := by
    refine ev_tEb (ev_bin (d1 := .int d) (d2 := .lst [.int 1, .int 2]) (S1 := some s) (S2 := some s) (ev_pVarF rfl) ?_ rfl)
    rfl
  by_cases hd : inD (.int d) [.int 1, .int 2] = true
  · have hq : 0 < (if d = 1 then r else 2) ∧ (if d = 1 then r else 2) < 2 ^ 60 := by split <;> omega
    obtain ⟨k, s', e1, e2, e3, e4⟩ := draw_ok h hn hq.1 hq.2
    refine ⟨decide (k > 0), s', ev_sifT hc hd ?_, e4⟩
    refine ev_set (r := fz (.bl (decide (k > 0)))) (S1 := some s') ?_
    refine ev_bin (d1 := .int k) (d2 := .int 0) (S1 := some s') (ev_pE (r := fz (.int k)) (ev_clS (os := [none, some (.int (if d = 1 then r else 2))]) (S1 := some s) (ev_qSpr rfl (ev_qCons (r := fz (.int (if d = 1 then r else 2))) (S1 := some s) ?_ rfl)) rfl e1)) rfl rfl
    by_cases h1 : d = 1
    · rw [if_pos h1]
      refine ev_ifT (x := decide (d = 1)) (S1 := some s) (ev_tEb (ev_bin (S1 := some s) (S2 := some s) (ev_pVarF rfl) rfl (eqI d 1))) (decide_eq_true h1) (ev_fVar rfl)
    · rw [if_neg h1]
      refine ev_ifF (x := decide (d = 1)) (S1 := some s) (ev_tEb (ev_bin (S1 := some s) (S2 := some s) (ev_pVarF rfl) rfl (eqI d 1))) (decide_eq_false h1) rfl
  · exact ⟨x, s, ev_sifF hc (by simpa using hd) rfl, h.up (by omega)⟩
theorem shape_3 (hi : 0 ≤ i ∧ i < 100) (hj : 0 ≤ j ∧ j < 100) : ∃ x', sIf (tEb (fBin gEq (pVar 2) (pE (fC (.int 3))))) (sSet 8 (fBin iLe (pE (fBin iMul (pE (fC (.int 2))) (pE (fBin iSub (pVar 7) (pVar 6))))) (pVar 1))) sNx
    (sE s m d r c gs (.frz (.int i)) (.frz (.int j)) (.frz (.bl x))) = some (.nx, sE s m d r c gs (.frz (.int i)) (.frz (.int j)) (.frz (.bl x'))) := by
  have hc : tEb (fBin gEq (pVar 2) (pE (fC (.int 3)))) (sE s m d r c gs (.frz (.int i)) (.frz (.int j)) (.frz (.bl x))) = some (decide (d = 3), some s) := ev_tEb (ev_bin (S1 := some s) (S2 := some s) (ev_pVarF rfl) rfl (eqI d 3))
  by_cases hd : d = 3
  · refine ⟨decide (2 * (j - i) ≤ m), ev_sifT hc (decide_eq_true hd) ?_⟩
    refine ev_set (r := fz (.bl (decide (2 * (j - i) ≤ m)))) (S1 := some s) ?_
    (repeat' (first | with_reducible assumption | with_reducible apply ev_seq | with_reducible apply ev_sifF | with_reducible apply ev_set | with_reducible apply ev_ret | with_reducible apply ev_bin | with_reducible apply ev_pE | with_reducible apply ev_pE' | with_reducible exact ev_fC | with_reducible apply ev_tOrF | with_reducible apply ev_tAnT | with_reducible apply ev_tNt | with_reducible apply ev_tEb | with_reducible apply ev_app | with_reducible exact ev_aNil | with_reducible apply ev_aCons | with_reducible apply ev_kCons | with_reducible exact ev_qNil | with_reducible apply ev_qSpr | with_reducible apply ev_qCons | with_reducible apply ev_cl | with_reducible apply ev_clS | with_reducible apply ev_tup | with_reducible apply ev_lst | with_reducible apply ev_ifT | with_reducible apply ev_chainT | with_reducible exact ev_nx | with_reducible apply ev_sprT0 | with_reducible apply ev_sprT1 | with_reducible apply ev_sprT2 | with_reducible apply ev_spr0 | with_reducible apply ev_spr1 | with_reducible apply ev_spr2 | with_reducible apply ev_for | with_reducible apply ev_items | with_reducible apply ev_comp | with_reducible apply ev_isi | with_reducible apply ev_strs | with_reducible apply ev_pVarF | with_reducible apply ev_fVar | with_reducible apply ev_rng1 | with_reducible exact ev_iLe | with_reducible exact ev_iLt | with_reducible exact ev_iGe | with_reducible exact ev_iGt | with_reducible exact ev_iAdd | with_reducible exact ev_iSub | with_reducible apply ev_iMul | with_reducible apply ev_iMod | with_reducible apply ev_iDiv | with_reducible apply ev_iPow | with_reducible exact ev_bInt | with_reducible exact ev_bLenS | with_reducible exact ev_bLenU | with_reducible exact ev_bLenD | with_reducible apply ev_bLenT | with_reducible exact ev_bLstS | with_reducible exact ev_bLstD | with_reducible apply ev_bLstStr | with_reducible apply ev_xLst | with_reducible apply ev_xTup | with_reducible assumption | ((with_reducible show _[_]? = some _); rfl) | ((with_reducible show tyN _ = some _); rfl) | ((with_reducible show compF _ _ _ _ _ _ = some _); assumption) | ((with_reducible show forF _ _ _ _ = some _); assumption) | ((with_reducible show ∀ k ∈ Tg.slots _, k ∈ _); simp [Tg.slots]) | ((with_reducible show List.length _ = _); rfl) | ((with_reducible show List.any _ _ = _); rfl)))
    all_goals omega
  · exact ⟨x, ev_sifF hc (decide_eq_false hd) rfl⟩
theorem shape_5 : ∃ x', sIf (tEb (fBin gEq (pVar 2) (pE (fC (.int 5))))) (sSet 8 (fBin iLt (pE (fBin iSub (pVar 7) (pVar 6))) (pVar 4))) sNx
    (sE s m d r c gs (.frz (.int i)) (.frz (.int j)) (.frz (.bl x))) = some (.nx, sE s m d r c gs (.frz (.int i)) (.frz (.int j)) (.frz (.bl x'))) := by
  have hc : tEb (fBin gEq (pVar 2) (pE (fC (.int 5)))) (sE s m d r c gs (.frz (.int i)) (.frz (.int j)) (.frz (.bl x))) = some (decide (d = 5), some s) := ev_tEb (ev_bin (S1 := some s) (S2 := some s) (ev_pVarF rfl) rfl (eqI d 5))
  by_cases hd : d = 5
  · refine ⟨decide (j - i < c), ev_sifT hc (decide_eq_true hd) ?_⟩
    refine ev_set (r := fz (.bl (decide (j - i < c)))) (S1 := some s) ?_
    (repeat' (first | with_reducible assumption | with_reducible apply ev_seq | with_reducible apply ev_sifF | with_reducible apply ev_set | with_reducible apply ev_ret | with_reducible apply ev_bin | with_reducible apply ev_pE | with_reducible apply ev_pE' | with_reducible exact ev_fC | with_reducible apply ev_tOrF | with_reducible apply ev_tAnT | with_reducible apply ev_tNt | with_reducible apply ev_tEb | with_reducible apply ev_app | with_reducible exact ev_aNil | with_reducible apply ev_aCons | with_reducible apply ev_kCons | with_reducible exact ev_qNil | with_reducible apply ev_qSpr | with_reducible apply ev_qCons | with_reducible apply ev_cl | with_reducible apply ev_clS | with_reducible apply ev_tup | with_reducible apply ev_lst | with_reducible apply ev_ifT | with_reducible apply ev_chainT | with_reducible exact ev_nx | with_reducible apply ev_sprT0 | with_reducible apply ev_sprT1 | with_reducible apply ev_sprT2 | with_reducible apply ev_spr0 | with_reducible apply ev_spr1 | with_reducible apply ev_spr2 | with_reducible apply ev_for | with_reducible apply ev_items | with_reducible apply ev_comp | with_reducible apply ev_isi | with_reducible apply ev_strs | with_reducible apply ev_pVarF | with_reducible apply ev_fVar | with_reducible apply ev_rng1 | with_reducible exact ev_iLe | with_reducible exact ev_iLt | with_reducible exact ev_iGe | with_reducible exact ev_iGt | with_reducible exact ev_iAdd | with_reducible exact ev_iSub | with_reducible apply ev_iMul | with_reducible apply ev_iMod | with_reducible apply ev_iDiv | with_reducible apply ev_iPow | with_reducible exact ev_bInt | with_reducible exact ev_bLenS | with_reducible exact ev_bLenU | with_reducible exact ev_bLenD | with_reducible apply ev_bLenT | with_reducible exact ev_bLstS | with_reducible exact ev_bLstD | with_reducible apply ev_bLstStr | with_reducible apply ev_xLst | with_reducible apply ev_xTup | with_reducible assumption | ((with_reducible show _[_]? = some _); rfl) | ((with_reducible show tyN _ = some _); rfl) | ((with_reducible show compF _ _ _ _ _ _ = some _); assumption) | ((with_reducible show forF _ _ _ _ = some _); assumption) | ((with_reducible show ∀ k ∈ Tg.slots _, k ∈ _); simp [Tg.slots]) | ((with_reducible show List.length _ = _); rfl) | ((with_reducible show List.any _ _ = _); rfl)))
  · exact ⟨x, ev_sifF hc (decide_eq_false hd) rfl⟩
theorem shape_4 (h : SprOk n s) (hn : n ≤ 1000000) : ∃ x' s', sIf (tEb (fBin gEq (pVar 2) (pE (fC (.int 4))))) (sSet 8 (fOrV (fChain iLt iLe (pVar 6) (pVar 4) (pVar 7)) (fBin iGt (pE (fClS Φ__law_draw 2 (qSpr 0 (qCons (fC (.int 2)) qNil)))) (pE (fC (.int 0)))))) sNx
    (sE s m d r c gs (.frz (.int i)) (.frz (.int j)) (.frz (.bl x))) = some (.nx, sE s' m d r c gs (.frz (.int i)) (.frz (.int j)) (.frz (.bl x'))) ∧ SprOk (n + 1) s' := by
  have hc : tEb (fBin gEq (pVar 2) (pE (fC (.int 4)))) (sE s m d r c gs (.frz (.int i)) (.frz (.int j)) (.frz (.bl x))) = some (decide (d = 4), some s) := ev_tEb (ev_bin (S1 := some s) (S2 := some s) (ev_pVarF rfl) rfl (eqI d 4))
  by_cases hd : d = 4
  · have hch : fChain iLt iLe (pVar 6) (pVar 4) (pVar 7) (sE s m d r c gs (.frz (.int i)) (.frz (.int j)) (.frz (.bl x))) = some (fz (.bl (decide (i < c) && decide (c ≤ j))), some s) := by
      by_cases h1 : i < c
      · simp only [decide_eq_true h1, Bool.true_and]
        exact ev_chainT (x := decide (i < c)) (S1 := some s) (S2 := some s) (ev_pVarF rfl) (ev_pVarF rfl) rfl (decide_eq_true h1) (ev_pVarF rfl) rfl
      · simp only [decide_eq_false h1, Bool.false_and]
        exact ev_chainF (x := decide (i < c)) (d3 := .non) (S1 := some s) (S2 := some s) (ev_pVarF rfl) (ev_pVarF rfl) rfl (decide_eq_false h1)
    obtain ⟨k, s', e1, e2, e3, e4⟩ := draw_ok (m := 2) h hn (by decide) (by decide)
    by_cases hb : (decide (i < c) && decide (c ≤ j)) = true
    · refine ⟨true, s, ev_sifT hc (decide_eq_true hd) ?_, h.up (by omega)⟩
      refine ev_set (r := fz (.bl true)) (S1 := some s) ?_
      unfold fOrV
      rw [hch, hb]; rfl
    · refine ⟨decide (k > 0), s', ev_sifT hc (decide_eq_true hd) ?_, e4⟩
      refine ev_set (r := fz (.bl (decide (k > 0)))) (S1 := some s') ?_
      unfold fOrV
      rw [hch, (by simpa using hb : (decide (i < c) && decide (c ≤ j)) = false)]
      show fBin iGt (pE (fClS Φ__law_draw 2 (qSpr 0 (qCons (fC (.int 2)) qNil)))) (pE (fC (.int 0))) (sE s m d r c gs (.frz (.int i)) (.frz (.int j)) (.frz (.bl x))) = _
      (repeat' (first | with_reducible assumption | with_reducible apply ev_seq | with_reducible apply ev_sifF | with_reducible apply ev_set | with_reducible apply ev_ret | with_reducible apply ev_bin | with_reducible apply ev_pE | with_reducible apply ev_pE' | with_reducible exact ev_fC | with_reducible apply ev_tOrF | with_reducible apply ev_tAnT | with_reducible apply ev_tNt | with_reducible apply ev_tEb | with_reducible apply ev_app | with_reducible exact ev_aNil | with_reducible apply ev_aCons | with_reducible apply ev_kCons | with_reducible exact ev_qNil | with_reducible apply ev_qSpr | with_reducible apply ev_qCons | with_reducible apply ev_cl | with_reducible apply ev_clS | with_reducible apply ev_tup | with_reducible apply ev_lst | with_reducible apply ev_ifT | with_reducible apply ev_chainT | with_reducible exact ev_nx | with_reducible apply ev_sprT0 | with_reducible apply ev_sprT1 | with_reducible apply ev_sprT2 | with_reducible apply ev_spr0 | with_reducible apply ev_spr1 | with_reducible apply ev_spr2 | with_reducible apply ev_for | with_reducible apply ev_items | with_reducible apply ev_comp | with_reducible apply ev_isi | with_reducible apply ev_strs | with_reducible apply ev_pVarF | with_reducible apply ev_fVar | with_reducible apply ev_rng1 | with_reducible exact ev_iLe | with_reducible exact ev_iLt | with_reducible exact ev_iGe | with_reducible exact ev_iGt | with_reducible exact ev_iAdd | with_reducible exact ev_iSub | with_reducible apply ev_iMul | with_reducible apply ev_iMod | with_reducible apply ev_iDiv | with_reducible apply ev_iPow | with_reducible exact ev_bInt | with_reducible exact ev_bLenS | with_reducible exact ev_bLenU | with_reducible exact ev_bLenD | with_reducible apply ev_bLenT | with_reducible exact ev_bLstS | with_reducible exact ev_bLstD | with_reducible apply ev_bLstStr | with_reducible apply ev_xLst | with_reducible apply ev_xTup | with_reducible assumption | ((with_reducible show _[_]? = some _); rfl) | ((with_reducible show tyN _ = some _); rfl) | ((with_reducible show compF _ _ _ _ _ _ = some _); assumption) | ((with_reducible show forF _ _ _ _ = some _); assumption) | ((with_reducible show ∀ k ∈ Tg.slots _, k ∈ _); simp [Tg.slots]) | ((with_reducible show List.length _ = _); rfl) | ((with_reducible show List.any _ _ = _); rfl)))
  · exact ⟨x, s, ev_sifF hc (decide_eq_false hd) rfl, h.up (by omega)⟩
theorem shape_b (h : SprOk n s) (hn : n ≤ 900000) (hr : 0 < r ∧ r ≤ 20) {a b : Nat} (hab : a < b) (hb : b < 100) (hg : gs.length < 10000) {c7 c8 : Cell} : ∃ g s' c8', (sSeq (sSet 8 (fC (.bl true))) (sSeq (sIf (tEb (fBin (lIn false) (pVar 2) (pE (fLst (kCons (fC (.int 1)) (kCons (fC (.int 2)) aNil)))))) (sSet 8 (fBin iGt (pE (fClS Φ__law_draw 2 (qSpr 0 (qCons (fIf (tEb (fBin gEq (pVar 2) (pE (fC (.int 1))))) (fVar 3) (fC (.int 2))) qNil)))) (pE (fC (.int 0))))) sNx) (sSeq (sIf (tEb (fBin gEq (pVar 2) (pE (fC (.int 3))))) (sSet 8 (fBin iLe (pE (fBin iMul (pE (fC (.int 2))) (pE (fBin iSub (pVar 7) (pVar 6))))) (pVar 1))) sNx) (sSeq (sIf (tEb (fBin gEq (pVar 2) (pE (fC (.int 4))))) (sSet 8 (fOrV (fChain iLt iLe (pVar 6) (pVar 4) (pVar 7)) (fBin iGt (pE (fClS Φ__law_draw 2 (qSpr 0 (qCons (fC (.int 2)) qNil)))) (pE (fC (.int 0)))))) sNx) (sSeq (sIf (tEb (fBin gEq (pVar 2) (pE (fC (.int 5))))) (sSet 8 (fBin iLt (pE (fBin iSub (pVar 7) (pVar 6))) (pVar 4))) sNx) (sMu 5 muApp (kCons (fIf (tEb (fVar 8)) (fTup (kCons (fVar 6) (kCons (fVar 7) aNil))) (fTup (kCons (fVar 7) (kCons (fVar 6) aNil)))) aNil)))))))
    (sE s m d r c gs (.frz (.int a)) (.frz (.int b)) c8) = some (.nx, sE s' m d r c (gs ++ [g]) (.frz (.int a)) (.frz (.int b)) c8') ∧ nrm g = (a, b) ∧ SprOk (n + 2) s' := by
  obtain ⟨x1, s1, a1, a2⟩ := shape_1 (m := m) (d := d) (c := c) (gs := gs) (i := a) (j := b) (x := true) h (by omega) hr
  obtain ⟨x2, b1⟩ := shape_3 (s := s1) (m := m) (d := d) (r := r) (c := c) (gs := gs) (i := a) (j := b) (x := x1) ⟨by omega, by omega⟩ ⟨by omega, by omega⟩
  obtain ⟨x3, s3, d1, d2⟩ := shape_4 (m := m) (d := d) (r := r) (c := c) (gs := gs) (i := a) (j := b) (x := x2) a2 (by omega)
  obtain ⟨x4, f1⟩ := shape_5 (s := s3) (m := m) (d := d) (r := r) (c := c) (gs := gs) (i := a) (j := b) (x := x3)
  refine ⟨if x4 = true then (a, b) else (b, a), s3, .frz (.bl x4), ?_, ?_, d2⟩
  · refine ev_seq (e1 := sE s m d r c gs (.frz (.int a)) (.frz (.int b)) (.frz (.bl true))) (ev_set (r := fz (.bl true)) (S1 := some s) rfl) (ev_seq a1 (ev_seq b1 (ev_seq d1 (ev_seq f1 ?_))))
    have hk : kCons (fIf (tEb (fVar 8)) (fTup (kCons (fVar 6) (kCons (fVar 7) aNil))) (fTup (kCons (fVar 7) (kCons (fVar 6) aNil)))) aNil (sE s3 m d r c gs (.frz (.int a)) (.frz (.int b)) (.frz (.bl x4))) = some ([gD (if x4 = true then (a, b) else (b, a))], some s3) := by
      cases x4 <;> rfl
    unfold sMu
    rw [hk]
    simp only [Option.bind_some]
    show ((muApp (.lst (gs.map gD)) [gD (if x4 = true then (a, b) else (b, a))]).map _) = _
    unfold muApp
    simp only [List.length_map]
    rw [if_pos (by omega)]
    simp only [Option.map_some]
    have : gs.map gD ++ [gD (if x4 = true then (a, b) else (b, a))] = (gs ++ [if x4 = true then (a, b) else (b, a)]).map gD := by simp
    rw [this]
    rfl
  · cases x4
    · show nrm (b, a) = _
      unfold nrm
      rw [if_neg (by simp; omega)]
    · show nrm (a, b) = _
      unfold nrm
      rw [if_pos (by simp; omega)]
end
end Al.Cm


set_option Elab.async false
set_option linter.all false
set_option maxRecDepth 100000
/-! Plain facts: shapes drawn, all. -/
namespace Al.Cm
open PySem PySem.Spec PyProof.Rows L2 Al
theorem forF_rng {b : FS} {i : Nat} {lo : Int} {k : Nat} (R : Nat → En → Prop) (h : ∀ t e, t < k → R t e → ∃ e', b (e.put i (.frz (.int (lo + t)))) = some (.nx, e') ∧ R (t + 1) e') {e : En} (r : R 0 e) : ∃ e', forF (.nm i) b (rngD lo k) e = some (.nx, e') ∧ R k e' := by
  obtain ⟨e', h1, t, h2, h3, h4⟩ := forF_list (T := .nm i) (b := b) (fun ds e => ∃ t, t ≤ k ∧ ds = (List.range' t (k - t)).map (fun j : Nat => D.int (lo + j)) ∧ R t e) (fun d ds e ⟨t, h1, h2, h3⟩ => by
    have hlt : t < k := by
      rcases Nat.lt_or_ge t k with hlt | hge
      · exact hlt
      · have : k - t = 0 := by omega
        rw [this] at h2
        cases h2
    have hs : k - t = (k - (t + 1)) + 1 := by omega
    rw [hs, List.range'_succ, List.map_cons] at h2
    obtain ⟨rfl, rfl⟩ := List.cons.inj h2
    obtain ⟨e', h4, h5⟩ := h t e hlt h3
    exact ⟨_, e', rfl, h4, t + 1, hlt, rfl, h5⟩) (rngD lo k) e ⟨0, Nat.zero_le _, by unfold rngD; rw [List.range_eq_range']; rfl, r⟩
  have : t = k := by
    rcases Nat.lt_or_ge t k with hlt | hge
    · have hs : k - t = (k - (t + 1)) + 1 := by omega
      rw [hs, List.range'_succ] at h3
      cases h3
    · omega
  subst this
  exact ⟨e', h1, h4⟩
noncomputable def b_shape : FS := (sSeq (sSet 8 (fC (.bl true))) (sSeq (sIf (tEb (fBin (lIn false) (pVar 2) (pE (fLst (kCons (fC (.int 1)) (kCons (fC (.int 2)) aNil)))))) (sSet 8 (fBin iGt (pE (fClS Φ__law_draw 2 (qSpr 0 (qCons (fIf (tEb (fBin gEq (pVar 2) (pE (fC (.int 1))))) (fVar 3) (fC (.int 2))) qNil)))) (pE (fC (.int 0))))) sNx) (sSeq (sIf (tEb (fBin gEq (pVar 2) (pE (fC (.int 3))))) (sSet 8 (fBin iLe (pE (fBin iMul (pE (fC (.int 2))) (pE (fBin iSub (pVar 7) (pVar 6))))) (pVar 1))) sNx) (sSeq (sIf (tEb (fBin gEq (pVar 2) (pE (fC (.int 4))))) (sSet 8 (fOrV (fChain iLt iLe (pVar 6) (pVar 4) (pVar 7)) (fBin iGt (pE (fClS Φ__law_draw 2 (qSpr 0 (qCons (fC (.int 2)) qNil)))) (pE (fC (.int 0)))))) sNx) (sSeq (sIf (tEb (fBin gEq (pVar 2) (pE (fC (.int 5))))) (sSet 8 (fBin iLt (pE (fBin iSub (pVar 7) (pVar 6))) (pVar 4))) sNx) (sMu 5 muApp (kCons (fIf (tEb (fVar 8)) (fTup (kCons (fVar 6) (kCons (fVar 7) aNil))) (fTup (kCons (fVar 7) (kCons (fVar 6) aNil)))) aNil)))))))
theorem shape_i {m : Nat} {d r c : Int} : ∀ (a : Nat) (s : Spr) (n : Nat) (gs : List (Nat × Nat)) (c7 c8 : Cell), 0 < m ∧ m ≤ 35 → 0 < r ∧ r ≤ 20 → a < m → SprOk n s → n ≤ 850000 → gs.length ≤ 5000 → ∃ e', forF (.nm 7) b_shape
      (rngD ((a : Int) + 1) (m - (a + 1))) (sE s m d r (1 + c) gs (.frz (.int a)) c7 c8) = some (.nx, e') ∧ ∃ s' gs' c7' c8', e' = sE s' m d r (1 + c) gs' (.frz (.int a)) c7' c8' ∧ gs'.map nrm = gs.map nrm ++ (List.range (m - (a + 1))).map (fun k => (a, a + 1 + k)) ∧ SprOk (n + 2 * (m - (a + 1))) s' := by
    intro a s n gs c7 c8 hm hr ha h hn hg
    refine forF_rng (fun t e => ∃ s' gs' c7' c8', e = sE s' m d r (1 + c) gs' (.frz (.int a)) c7' c8' ∧ gs'.map nrm = gs.map nrm ++ (List.range t).map (fun k => (a, a + 1 + k)) ∧ SprOk (n + 2 * t) s') (fun t e ht ⟨s', gs', c7', c8', q1, q2, q3⟩ => ?_) ⟨s, gs, c7, c8, rfl, by simp, h⟩
    subst q1
    have hlen : gs'.length = gs.length + t := by have := congrArg List.length q2; simpa using this
    obtain ⟨g, s4, c84, f1, f2, f3⟩ := shape_b (m := m) (d := d) (c := 1 + c) (gs := gs') q3 (by omega) hr (a := a) (b := a + 1 + t) (by omega) (by omega) (by omega) (c7 := c7') (c8 := c8')
    refine ⟨sE s4 m d r (1 + c) (gs' ++ [g]) (.frz (.int a)) (.frz (.int ((a + 1 + t : Nat) : Int))) c84, ?_, s4, gs' ++ [g], .frz (.int ((a + 1 + t : Nat) : Int)), c84, rfl, ?_, f3⟩
    · have e1 : ((a : Int) + 1 + (t : Int)) = ((a + 1 + t : Nat) : Int) := by omega
      rw [e1]
      exact f1
    · rw [List.map_append, q2, List.range_succ, List.map_append, List.append_assoc]
      simp [f2]
end Al.Cm


set_option Elab.async false
set_option linter.all false
set_option maxRecDepth 100000
/-! Plain facts: shapes drawn, all. -/
namespace Al.Cm
open PySem PySem.Spec PyProof.Rows L2 Al
theorem ev_rng2 {fa : AF} {e : En} {S1 : Option Spr} {i j : Int} (h : fa e = some ([.int i, .int j], S1)) (hi : 0 ≤ i ∧ i < 1000000) (hj : 0 ≤ j ∧ j < 1000000) : fRng2 fa e = some (rngD i (j - i).toNat, S1) := by
  unfold fRng2; rw [h, Option.bind_some]
  have : -(2 ^ 62) ≤ i ∧ i < 2 ^ 62 ∧ -(2 ^ 62) ≤ j ∧ j < 2 ^ 62 := ⟨by omega, by omega, by omega, by omega⟩
  simp only [this, and_self, if_true]
noncomputable def o_shape : FS := (sFor (fRng2 (aCons (pE (fBin iAdd (pVar 6) (pE (fC (.int 1))))) (aCons (pVar 1) aNil))) (.nm 7) b_shape)
theorem shape_o {n : Nat} {s3 : Spr} {m : Nat} {d r c : Int} (hn : n ≤ 800000) (hm : 0 < m ∧ m ≤ 35) (hr : 0 < r ∧ r ≤ 20) (d4 : SprOk (n + 3) s3) : ∃ e', forF (.nm 6) o_shape (rngD 0 m) (sE s3 m d r (1 + c) [] .no .no .no) = some (.nx, e') ∧
    ∃ (s' : Spr) (gs' : List (Nat × Nat)) (c6' c7' c8' : Cell), e' = sE s' m d r (1 + c) gs' c6' c7' c8' ∧ gs'.map nrm = prs m ∧ SprOk (n + 3 + 70 * m) s' ∧ gs'.length ≤ 35 * m := by
  have inner := fun a s n gs c7 c8 => shape_i (m := m) (d := d) (r := r) (c := c) a s n gs c7 c8 hm hr
  exact forF_rng (b := o_shape) (i := 6) (lo := 0) (k := m)
    (fun t e => ∃ (s' : Spr) (gs' : List (Nat × Nat)) (c6' c7' c8' : Cell), e = sE s' m d r (1 + c) gs' c6' c7' c8' ∧ gs'.map nrm = (List.range t).flatMap (fun i => (List.range (m - (i + 1))).map fun k => (i, i + 1 + k)) ∧ SprOk (n + 3 + 70 * t) s' ∧ gs'.length ≤ 35 * t) (fun t e ht ⟨s', gs', c6', c7', c8', q1, q2, q3, q4⟩ => by
      subst q1
      have e0 : ((0 : Int) + (t : Int)) = ((t : Nat) : Int) := by omega
      rw [e0]
      obtain ⟨e', f1, s4, gs4, c74, c84, f2, f3, f4⟩ := inner t s' (n + 3 + 70 * t) gs' c7' c8' ht q3 (by omega) (by omega)
      subst f2
      refine ⟨sE s4 m d r (1 + c) gs4 (.frz (.int t)) c74 c84, ev_for (S := some s') (S1 := some s') (ds := rngD ((t : Int) + 1) (m - (t + 1))) ?_ f1, s4, gs4, .frz (.int t), c74, c84, rfl, ?_, f4.up (by omega), ?_⟩
      · have q := ev_rng2 (fa := aCons (pE (fBin iAdd (pVar 6) (pE (fC (.int 1))))) (aCons (pVar 1) aNil)) (e := sE s' m d r (1 + c) gs' (.frz (.int t)) c7' c8') (S1 := some s') (i := (t : Int) + 1) (j := m) rfl (by omega) (by omega)
        have e2 : ((m : Int) - ((t : Int) + 1)).toNat = m - (t + 1) := by omega
        rw [e2] at q
        exact q
      · rw [f3, q2, List.range_succ, List.flatMap_append]
        simp
      · have := congrArg List.length f3
        simp at this
        omega) ⟨s3, [], .no, .no, .no, rfl, rfl, (d4.up (Nat.le_add_right _ _)), by simp⟩

theorem shape_ok {n : Nat} {s : Spr} {m : Nat} (h : SprOk n s) (hn : n ≤ 800000) (hm : 0 < m ∧ m ≤ 35) :
    ∃ (gs : List (Nat × Nat)) (s' : Spr), Φ__law_b_shape (some s) [none, some (.int m)] = some (nw (.lst (gs.map gD)), some s') ∧ gs.map nrm = prs m ∧ SprOk (n + 3 + 70 * m) s' := by
  obtain ⟨d, s1, a1, a2, a3, a4⟩ := draw_ok (m := 6) h (by omega) (by decide) (by decide)
  obtain ⟨rd, s2, b1, b2, b3⟩ := pick_ok (ds := [.int 2, .int 3, .int 6, .int 20]) a4 (by omega) (by simp) (by decide)
  obtain ⟨r, rfl, hr⟩ : ∃ r : Int, rd = .int r ∧ 0 < r ∧ r ≤ 20 := by
    simp only [List.mem_cons, List.not_mem_nil, or_false] at b2
    rcases b2 with rfl | rfl | rfl | rfl
    · exact ⟨2, rfl, by decide, by decide⟩
    · exact ⟨3, rfl, by decide, by decide⟩
    · exact ⟨6, rfl, by decide, by decide⟩
    · exact ⟨20, rfl, by decide, by decide⟩
  obtain ⟨c, s3, d1, d2, d3, d4⟩ := draw_ok (m := (m : Int)) b3 (by omega) (by omega) (by omega)
  obtain ⟨e', o1, s', gs', c6', c7', c8', o2, o3, o4, o5⟩ := shape_o (d := d) (r := r) (c := c) hn hm hr d4
  subst o2
  refine ⟨gs', s', ?_, o3, o4⟩
  apply ev_runS
  refine ⟨[.spr, .frz (.int m), .frz (.int d), .frz (.int r), .frz (.int (1 + c)), .own (.lst (gs'.map gD)), c6', c7', c8'], fun _ => none, ?_⟩
  show g__law_b_shape ⟨some s, [.spr, .frz (.int m), .no, .no, .no, .no, .no, .no, .no], fun _ => none⟩ = _
  unfold g__law_b_shape
  refine ev_seq (e1 := ⟨some s3, [.spr, .frz (.int m), .frz (.int d), .frz (.int r), .frz (.int (1 + c)), .no, .no, .no, .no], fun _ => none⟩) ?_ ?_
  · have hk : (kCons (fClS Φ__law_draw 2 (qSpr 0 (qCons (fC (.int 6)) qNil))) (kCons (fClS Φ__law_pick 2 (qSpr 0 (qCons (fLst (kCons (fC (.int 2)) (kCons (fC (.int 3)) (kCons (fC (.int 6)) (kCons (fC (.int 20)) aNil))))) qNil))) (kCons (fBin iAdd (pE (fC (.int 1))) (pE (fClS Φ__law_draw 2 (qSpr 0 (qCons (fVar 1) qNil))))) aNil))) ⟨some s, [.spr, .frz (.int m), .no, .no, .no, .no, .no, .no, .no], fun _ => none⟩ = some ([.int d, .int r, .int (1 + c)], some s3) := by
      refine ev_kCons (r := fz (.int d)) (S1 := some s1) ?_ (ev_kCons (r := fz (.int r)) (S1 := some s2) ?_ (ev_kCons (r := fz (.int (1 + c))) (S1 := some s3) ?_ rfl))
      · (repeat' (first | with_reducible assumption | with_reducible apply ev_seq | with_reducible apply ev_sifF | with_reducible apply ev_set | with_reducible apply ev_ret | with_reducible apply ev_bin | with_reducible apply ev_pE | with_reducible apply ev_pE' | with_reducible exact ev_fC | with_reducible apply ev_tOrF | with_reducible apply ev_tAnT | with_reducible apply ev_tNt | with_reducible apply ev_tEb | with_reducible apply ev_app | with_reducible exact ev_aNil | with_reducible apply ev_aCons | with_reducible apply ev_kCons | with_reducible exact ev_qNil | with_reducible apply ev_qSpr | with_reducible apply ev_qCons | with_reducible apply ev_cl | with_reducible apply ev_clS | with_reducible apply ev_tup | with_reducible apply ev_lst | with_reducible apply ev_ifT | with_reducible apply ev_chainT | with_reducible exact ev_nx | with_reducible apply ev_sprT0 | with_reducible apply ev_sprT1 | with_reducible apply ev_sprT2 | with_reducible apply ev_spr0 | with_reducible apply ev_spr1 | with_reducible apply ev_spr2 | with_reducible apply ev_for | with_reducible apply ev_items | with_reducible apply ev_comp | with_reducible apply ev_isi | with_reducible apply ev_strs | with_reducible apply ev_pVarF | with_reducible apply ev_fVar | with_reducible apply ev_rng1 | with_reducible exact ev_iLe | with_reducible exact ev_iLt | with_reducible exact ev_iGe | with_reducible exact ev_iGt | with_reducible exact ev_iAdd | with_reducible exact ev_iSub | with_reducible apply ev_iMul | with_reducible apply ev_iMod | with_reducible apply ev_iDiv | with_reducible apply ev_iPow | with_reducible exact ev_bInt | with_reducible exact ev_bLenS | with_reducible exact ev_bLenU | with_reducible exact ev_bLenD | with_reducible apply ev_bLenT | with_reducible exact ev_bLstS | with_reducible exact ev_bLstD | with_reducible apply ev_bLstStr | with_reducible apply ev_xLst | with_reducible apply ev_xTup | with_reducible assumption | ((with_reducible show _[_]? = some _); rfl) | ((with_reducible show tyN _ = some _); rfl) | ((with_reducible show compF _ _ _ _ _ _ = some _); assumption) | ((with_reducible show forF _ _ _ _ = some _); assumption) | ((with_reducible show ∀ k ∈ Tg.slots _, k ∈ _); simp [Tg.slots]) | ((with_reducible show List.length _ = _); rfl) | ((with_reducible show List.any _ _ = _); rfl)))
      · (repeat' (first | with_reducible assumption | with_reducible apply ev_seq | with_reducible apply ev_sifF | with_reducible apply ev_set | with_reducible apply ev_ret | with_reducible apply ev_bin | with_reducible apply ev_pE | with_reducible apply ev_pE' | with_reducible exact ev_fC | with_reducible apply ev_tOrF | with_reducible apply ev_tAnT | with_reducible apply ev_tNt | with_reducible apply ev_tEb | with_reducible apply ev_app | with_reducible exact ev_aNil | with_reducible apply ev_aCons | with_reducible apply ev_kCons | with_reducible exact ev_qNil | with_reducible apply ev_qSpr | with_reducible apply ev_qCons | with_reducible apply ev_cl | with_reducible apply ev_clS | with_reducible apply ev_tup | with_reducible apply ev_lst | with_reducible apply ev_ifT | with_reducible apply ev_chainT | with_reducible exact ev_nx | with_reducible apply ev_sprT0 | with_reducible apply ev_sprT1 | with_reducible apply ev_sprT2 | with_reducible apply ev_spr0 | with_reducible apply ev_spr1 | with_reducible apply ev_spr2 | with_reducible apply ev_for | with_reducible apply ev_items | with_reducible apply ev_comp | with_reducible apply ev_isi | with_reducible apply ev_strs | with_reducible apply ev_pVarF | with_reducible apply ev_fVar | with_reducible apply ev_rng1 | with_reducible exact ev_iLe | with_reducible exact ev_iLt | with_reducible exact ev_iGe | with_reducible exact ev_iGt | with_reducible exact ev_iAdd | with_reducible exact ev_iSub | with_reducible apply ev_iMul | with_reducible apply ev_iMod | with_reducible apply ev_iDiv | with_reducible apply ev_iPow | with_reducible exact ev_bInt | with_reducible exact ev_bLenS | with_reducible exact ev_bLenU | with_reducible exact ev_bLenD | with_reducible apply ev_bLenT | with_reducible exact ev_bLstS | with_reducible exact ev_bLstD | with_reducible apply ev_bLstStr | with_reducible apply ev_xLst | with_reducible apply ev_xTup | with_reducible assumption | ((with_reducible show _[_]? = some _); rfl) | ((with_reducible show tyN _ = some _); rfl) | ((with_reducible show compF _ _ _ _ _ _ = some _); assumption) | ((with_reducible show forF _ _ _ _ = some _); assumption) | ((with_reducible show ∀ k ∈ Tg.slots _, k ∈ _); simp [Tg.slots]) | ((with_reducible show List.length _ = _); rfl) | ((with_reducible show List.any _ _ = _); rfl)))
        all_goals decide
      · (repeat' (first | with_reducible assumption | with_reducible apply ev_seq | with_reducible apply ev_sifF | with_reducible apply ev_set | with_reducible apply ev_ret | with_reducible apply ev_bin | with_reducible apply ev_pE | with_reducible apply ev_pE' | with_reducible exact ev_fC | with_reducible apply ev_tOrF | with_reducible apply ev_tAnT | with_reducible apply ev_tNt | with_reducible apply ev_tEb | with_reducible apply ev_app | with_reducible exact ev_aNil | with_reducible apply ev_aCons | with_reducible apply ev_kCons | with_reducible exact ev_qNil | with_reducible apply ev_qSpr | with_reducible apply ev_qCons | with_reducible apply ev_cl | with_reducible apply ev_clS | with_reducible apply ev_tup | with_reducible apply ev_lst | with_reducible apply ev_ifT | with_reducible apply ev_chainT | with_reducible exact ev_nx | with_reducible apply ev_sprT0 | with_reducible apply ev_sprT1 | with_reducible apply ev_sprT2 | with_reducible apply ev_spr0 | with_reducible apply ev_spr1 | with_reducible apply ev_spr2 | with_reducible apply ev_for | with_reducible apply ev_items | with_reducible apply ev_comp | with_reducible apply ev_isi | with_reducible apply ev_strs | with_reducible apply ev_pVarF | with_reducible apply ev_fVar | with_reducible apply ev_rng1 | with_reducible exact ev_iLe | with_reducible exact ev_iLt | with_reducible exact ev_iGe | with_reducible exact ev_iGt | with_reducible exact ev_iAdd | with_reducible exact ev_iSub | with_reducible apply ev_iMul | with_reducible apply ev_iMod | with_reducible apply ev_iDiv | with_reducible apply ev_iPow | with_reducible exact ev_bInt | with_reducible exact ev_bLenS | with_reducible exact ev_bLenU | with_reducible exact ev_bLenD | with_reducible apply ev_bLenT | with_reducible exact ev_bLstS | with_reducible exact ev_bLstD | with_reducible apply ev_bLstStr | with_reducible apply ev_xLst | with_reducible apply ev_xTup | with_reducible assumption | ((with_reducible show _[_]? = some _); rfl) | ((with_reducible show tyN _ = some _); rfl) | ((with_reducible show compF _ _ _ _ _ _ = some _); assumption) | ((with_reducible show forF _ _ _ _ = some _); assumption) | ((with_reducible show ∀ k ∈ Tg.slots _, k ∈ _); simp [Tg.slots]) | ((with_reducible show List.length _ = _); rfl) | ((with_reducible show List.any _ _ = _); rfl)))
    unfold sPar
    rw [hk]
    rfl
  refine ev_seq (e1 := sE s3 m d r (1 + c) [] .no .no .no) ?_ ?_
  · exact ev_set (r := nw (.lst [])) (S1 := some s3) rfl
  refine ev_seq (e1 := sE s' m d r (1 + c) gs' c6' c7' c8') ?_ ?_
  · refine ev_for (S1 := some s3) (ds := rngD 0 m) ?_ o1
    have : (m : Int).toNat = m := by omega
    have q := ev_rng1 (fa := aCons (pVar 1) aNil) (e := sE s3 m d r (1 + c) [] .no .no .no) (S1 := some s3) (j := m) rfl ⟨by omega, by omega⟩
    rw [this] at q
    exact q
  · exact ev_retVO rfl
end Al.Cm


set_option Elab.async false
set_option linter.all false
set_option maxRecDepth 100000
/-! Plain facts: tournaments drawn. -/
namespace Al.Cm
open PySem PySem.Spec PyProof.Rows L2 Al
theorem compF_mapx {α : Type} {T : Tg} {c : TF} {f : FE} {e : En} {S : Option Spr} {g v : α → D} : ∀ {xs : List α}, (∀ x ∈ xs, ∃ e1 r, tgD T (g x) (e.st S) = some e1 ∧ c e1 = some (true, S) ∧ f (e1.st S) = some (r, S) ∧ r.d = v x) → compF T c f e (xs.map g) S = some (xs.map v, S)
  | [], _ => rfl
  | x :: xs, h => by
    obtain ⟨e1, r, h1, h2, h3, h4⟩ := h x List.mem_cons_self
    have ih := compF_mapx (g := g) (v := v) (xs := xs) fun x hx => h x (List.mem_cons_of_mem _ hx)
    simp [compF, h1, h2, h3, h4, ih]
theorem getD_lt {α : Type} {ns : List α} {d : α} {i : Nat} (h : i < ns.length) : ns.getD i d = ns[i] := by simp [List.getD_eq_getElem?_getD, h]
theorem inj_nodup {α β : Type} {f : α → β} : ∀ {xs : List α} {a b : α}, (xs.map f).Nodup → a ∈ xs → b ∈ xs → f a = f b → a = b
  | x :: xs, a, b, h, ha, hb, e => by
    have hc := List.nodup_cons.mp h
    rcases List.mem_cons.mp ha with rfl | ha
    · rcases List.mem_cons.mp hb with rfl | hb
      · rfl
      · exact absurd (List.mem_map.mpr ⟨b, hb, e.symm⟩) hc.1
    · rcases List.mem_cons.mp hb with hx | hb
      · have : f x ∈ xs.map f := List.mem_map.mpr ⟨a, ha, by rw [e, hx]⟩
        exact absurd this hc.1
      · exact inj_nodup hc.2 ha hb e
theorem nd_inj {α : Type} : ∀ {xs : List α} {i j : Nat}, xs.Nodup → (hi : i < xs.length) → (hj : j < xs.length) → xs[i] = xs[j] → i = j
  | x :: xs, 0, 0, _, _, _, _ => rfl
  | x :: xs, 0, j + 1, h, _, hj, e => by
    have hc := List.nodup_cons.mp h
    have : x = xs[j]'(Nat.lt_of_succ_lt_succ hj) := e
    exact absurd (this ▸ List.getElem_mem _) hc.1
  | x :: xs, i + 1, 0, h, hi, _, e => by
    have hc := List.nodup_cons.mp h
    have : xs[i]'(Nat.lt_of_succ_lt_succ hi) = x := e
    exact absurd (this ▸ List.getElem_mem _) hc.1
  | x :: xs, i + 1, j + 1, h, hi, hj, e => by
    have hc := List.nodup_cons.mp h
    have := nd_inj (i := i) (j := j) hc.2 (Nat.lt_of_succ_lt_succ hi) (Nat.lt_of_succ_lt_succ hj) e
    omega
theorem mem_prs {m i j : Nat} : (i, j) ∈ prs m ↔ i < j ∧ j < m := by
  unfold prs
  simp only [List.mem_flatMap, List.mem_map, List.mem_range, Prod.mk.injEq]
  constructor
  · rintro ⟨a, h1, k, h2, rfl, rfl⟩
    omega
  · rintro ⟨h1, h2⟩
    exact ⟨i, by omega, j - (i + 1), by omega, rfl, by omega⟩
theorem prs_nodup (m : Nat) : (prs m).Nodup := by
  unfold prs
  rw [List.Nodup, List.pairwise_flatMap]
  refine ⟨fun i hi => ?_, ?_⟩
  · refine List.Pairwise.map _ (R := fun a b => a ≠ b) (fun a b h e => h (by have := (Prod.mk.inj e).2; omega)) List.nodup_range
  · refine List.Pairwise.imp (R := fun a b => a ≠ b) (fun {a b} h => ?_) List.nodup_range
    intro x hx y hy exy
    subst exy
    simp only [List.mem_map] at hx hy
    obtain ⟨k, _, rfl⟩ := hx
    obtain ⟨k', _, e⟩ := hy
    exact h (Prod.mk.inj e).1.symm
structure Tour (ns : List Str) (ws : List (Str × Str)) : Prop where
  nd : ns.Nodup
  ok : ∀ y ∈ ns, Nm 7 y
  ins : ∀ w ∈ ws, w.1 ∈ ns ∧ w.2 ∈ ns
  wnd : ws.Nodup
  asym : ∀ a b, (a, b) ∈ ws → (b, a) ∉ ws
  tot : ∀ a b, a ∈ ns → b ∈ ns → a ≠ b → (a, b) ∈ ws ∨ (b, a) ∈ ws
theorem Tour.perm {ns ns' : List Str} {ws ws' : List (Str × Str)} (h : Tour ns ws) (p : ns'.Perm ns) (q : ws'.Perm ws) : Tour ns' ws' :=
  ⟨p.nodup_iff.mpr h.nd, fun y hy => h.ok y (p.mem_iff.mp hy), fun w hw => ⟨p.mem_iff.mpr (h.ins w (q.mem_iff.mp hw)).1, p.mem_iff.mpr (h.ins w (q.mem_iff.mp hw)).2⟩, q.nodup_iff.mpr h.wnd,
    fun a b hab hba => h.asym a b (q.mem_iff.mp hab) (q.mem_iff.mp hba), fun a b ha hb hne => (h.tot a b (p.mem_iff.mp ha) (p.mem_iff.mp hb) hne).imp q.mem_iff.mpr q.mem_iff.mpr⟩
theorem Tour.ne {ns : List Str} {ws : List (Str × Str)} (h : Tour ns ws) {w : Str × Str} (hw : w ∈ ws) : w.1 ≠ w.2 := fun e => by
  obtain ⟨a, b⟩ := w
  simp only at e
  subst e
  exact h.asym _ _ hw hw
def wD (w : Str × Str) : D := .tup [.str w.1, .str w.2]
theorem tour_shape {ns : List Str} {gs : List (Nat × Nat)} (h1 : ns.Nodup) (h2 : ∀ y ∈ ns, Nm 7 y) (h3 : gs.map nrm = prs ns.length) : Tour ns (gs.map fun g => (ns.getD g.1 (Str.ofString ""), ns.getD g.2 (Str.ofString ""))) := by
  have hb : ∀ g ∈ gs, g.1 < ns.length ∧ g.2 < ns.length ∧ g.1 ≠ g.2 := fun g hg => by
    have : nrm g ∈ prs ns.length := h3 ▸ List.mem_map.mpr ⟨g, hg, rfl⟩
    obtain ⟨a, b⟩ := g
    unfold nrm at this
    split at this
    · have := mem_prs.mp this; simp only; omega
    · have := mem_prs.mp this; simp only at this ⊢; omega
  have hgn : (gs.map nrm).Nodup := h3 ▸ prs_nodup _
  have hgd : gs.Nodup := by
    refine List.Pairwise.imp (R := fun a b => nrm a ≠ nrm b) (fun h e => h (congrArg _ e)) ?_
    exact List.pairwise_map.mp hgn
  have inj : ∀ i j, i < ns.length → j < ns.length → ns.getD i (Str.ofString "") = ns.getD j (Str.ofString "") → i = j := fun i j hi hj e => by
    rw [getD_lt hi, getD_lt hj] at e
    exact nd_inj h1 hi hj e
  refine ⟨h1, h2, ?_, ?_, ?_, ?_⟩
  · intro w hw
    obtain ⟨g, hg, rfl⟩ := List.mem_map.mp hw
    obtain ⟨p, q, _⟩ := hb g hg
    simp only [getD_lt p, getD_lt q]
    exact ⟨List.getElem_mem p, List.getElem_mem q⟩
  · rw [List.Nodup, List.pairwise_map]
    refine List.Pairwise.imp_of_mem (fun {a b} ha hb' h e => ?_) hgd
    obtain ⟨p, q, _⟩ := hb a ha
    obtain ⟨p', q', _⟩ := hb b hb'
    have e1 := inj _ _ p p' (Prod.mk.inj e).1
    have e2 := inj _ _ q q' (Prod.mk.inj e).2
    exact h (Prod.ext e1 e2)
  · intro a b h4 h5
    obtain ⟨g, hg, e1⟩ := List.mem_map.mp h4
    obtain ⟨g', hg', e2⟩ := List.mem_map.mp h5
    obtain ⟨p, q, r⟩ := hb g hg
    obtain ⟨p', q', r'⟩ := hb g' hg'
    obtain ⟨e3, e4⟩ := Prod.mk.inj e1
    obtain ⟨e5, e6⟩ := Prod.mk.inj e2
    have k1 := inj _ _ p q' (e3.trans e6.symm)
    have k2 := inj _ _ q p' (e4.trans e5.symm)
    have : g' = (g.2, g.1) := Prod.ext k2.symm k1.symm
    subst this
    have hn : nrm (g.2, g.1) = nrm g := by
      unfold nrm
      simp only
      split <;> split <;> first | rfl | (exfalso; omega) | (apply Prod.ext <;> simp only <;> omega)
    have := List.pairwise_map.mp hgn
    have hne : g ≠ (g.2, g.1) := fun e => r (by have := (Prod.ext_iff.mp e).1; exact this)
    exact absurd (inj_nodup hgn hg hg' hn.symm) hne
  · intro a b ha hb' hne
    obtain ⟨i, hi, rfl⟩ := List.getElem_of_mem ha
    obtain ⟨j, hj, rfl⟩ := List.getElem_of_mem hb'
    have key : ∀ i j (hi : i < ns.length) (hj : j < ns.length), i < j → (ns[i], ns[j]) ∈ (gs.map fun g => (ns.getD g.1 (Str.ofString ""), ns.getD g.2 (Str.ofString ""))) ∨ (ns[j], ns[i]) ∈ (gs.map fun g => (ns.getD g.1 (Str.ofString ""), ns.getD g.2 (Str.ofString ""))) := fun i j hi hj hij => by
      have : (i, j) ∈ gs.map nrm := h3 ▸ mem_prs.mpr ⟨hij, hj⟩
      obtain ⟨g, hg, e⟩ := List.mem_map.mp this
      unfold nrm at e
      split at e
      · subst e
        exact .inl (List.mem_map.mpr ⟨_, hg, by simp only [getD_lt hi, getD_lt hj]⟩)
      · obtain ⟨e1, e2⟩ := Prod.mk.inj e
        refine .inr (List.mem_map.mpr ⟨g, hg, ?_⟩)
        rw [e1, e2]
        simp only [getD_lt hi, getD_lt hj]
    rcases Nat.lt_trichotomy i j with h | h | h
    · exact key i j hi hj h
    · subst h; exact absurd rfl hne
    · exact (key j i hj hi h).symm
end Al.Cm


set_option Elab.async false
set_option linter.all false
set_option maxRecDepth 100000
/-! Plain facts: drawn. -/
namespace Al.Cm
open PySem PySem.Spec PyProof.Rows L2 Al
theorem atI_getD {ns : List Str} {i : Nat} (h : i < ns.length) : atI (ns.map D.str) (i : Int) = some (.str (ns.getD i (Str.ofString ""))) := by
  have : ixN (ns.map D.str).length (i : Int) = some i := by
    unfold ixN
    rw [if_pos (by omega), if_pos (by simp; exact h)]
    rfl
  unfold atI
  rw [this, getD_lt h]
  simp [h]
theorem perm_map_inv {α β : Type} {f : α → β} : ∀ {xs : List α} {ys : List β}, ys.Perm (xs.map f) → ∃ zs : List α, zs.Perm xs ∧ ys = zs.map f
  | xs, ys, h => by
    generalize hq : xs.map f = zs at h
    induction h generalizing xs with
    | nil => exact ⟨xs, .refl _, hq.symm⟩
    | cons x p ih =>
      match xs, hq with
      | a :: xs, hq =>
        obtain ⟨rfl, e⟩ := List.cons.inj hq
        obtain ⟨zs, p1, e1⟩ := ih xs e
        exact ⟨a :: zs, p1.cons _, by rw [e1]; rfl⟩
    | swap x y l =>
      match xs, hq with
      | a :: b :: xs, hq =>
        obtain ⟨e0, e⟩ := List.cons.inj hq
        obtain ⟨e1, e2⟩ := List.cons.inj e
        exact ⟨b :: a :: xs, .swap _ _ _, by rw [← e0, ← e1, ← e2]; rfl⟩
    | trans p q ih1 ih2 =>
      obtain ⟨z1, p1, e1⟩ := ih2 xs hq
      obtain ⟨z2, p2, e2⟩ := ih1 z1 e1.symm
      exact ⟨z2, p2.trans p1, e2⟩
theorem prs_len (m : Nat) (hm : m ≤ 35) : (prs m).length ≤ 2000 := by
  have : ∀ m, m ≤ 35 → (prs m).length ≤ 2000 := by decide +kernel
  exact this m hm
theorem drawn_ok {n : Nat} {s : Spr} {m : Nat} (h : SprOk n s) (hn : n ≤ 100000) (hm : 0 < m ∧ m ≤ 35) :
    ∃ (ps : List Str) (ws : List (Str × Str)) (s' : Spr), Φ__law_b_drawn (some s) [none, some (.int m)] = some (fz (.tup [.lst (ps.map .str), .lst (ws.map wD)]), some s') ∧ Tour ps ws ∧ ps.length = m ∧ SprOk (n + 10000) s' := by
  obtain ⟨ns, s1, a1, a2, a3, a4, a5⟩ := names_ok h (by omega) hm.2
  obtain ⟨ps, s2, b1, b2, b3⟩ := mixed_ok (ds := ns.map D.str) a5 (by simp; omega) (by simp; omega)
  simp only [List.length_map] at b3
  obtain ⟨ps, b4, rfl⟩ := perm_map_inv b2
  obtain ⟨gs, s3, c1, c2, c3⟩ := shape_ok (m := m) b3 (by omega) hm
  have hgl : gs.length ≤ 2000 := by
    have := congrArg List.length c2
    have := prs_len m hm.2
    simp at *
    omega
  have hT := tour_shape a4 a3 (a2 ▸ c2)
  obtain ⟨wd, s4, d1, d2, d3⟩ := mixed_ok (ds := (gs.map fun g => (ns.getD g.1 (Str.ofString ""), ns.getD g.2 (Str.ofString ""))).map wD) c3 (by simp; omega) (by simp; omega)
  obtain ⟨ws, d4, rfl⟩ := perm_map_inv d2
  refine ⟨ps, ws, s4, ?_, hT.perm b4 d4, by rw [b4.length_eq, a2], d3.up (by simp; omega)⟩
  apply ev_runS
  refine ⟨[.spr, .frz (.int m), .frz (.lst (ns.map .str)), .no, .no], fun _ => none, ?_⟩
  show g__law_b_drawn ⟨some s, [.spr, .frz (.int m), .no, .no, .no], fun _ => none⟩ = _
  unfold g__law_b_drawn
  refine ev_seq (e1 := ⟨some s1, [.spr, .frz (.int m), .own (.lst (ns.map .str)), .no, .no], fun _ => none⟩) ?_ ?_
  · refine ev_set (r := nw (.lst (ns.map .str))) (S1 := some s1) ?_
    (repeat' (first | with_reducible assumption | with_reducible apply ev_seq | with_reducible apply ev_sifF | with_reducible apply ev_set | with_reducible apply ev_ret | with_reducible apply ev_bin | with_reducible apply ev_pE | with_reducible apply ev_pE' | with_reducible exact ev_fC | with_reducible apply ev_tOrF | with_reducible apply ev_tAnT | with_reducible apply ev_tNt | with_reducible apply ev_tEb | with_reducible apply ev_app | with_reducible exact ev_aNil | with_reducible apply ev_aCons | with_reducible apply ev_kCons | with_reducible exact ev_qNil | with_reducible apply ev_qSpr | with_reducible apply ev_qCons | with_reducible apply ev_cl | with_reducible apply ev_clS | with_reducible apply ev_tup | with_reducible apply ev_lst | with_reducible apply ev_ifT | with_reducible apply ev_chainT | with_reducible exact ev_nx | with_reducible apply ev_sprT0 | with_reducible apply ev_sprT1 | with_reducible apply ev_sprT2 | with_reducible apply ev_spr0 | with_reducible apply ev_spr1 | with_reducible apply ev_spr2 | with_reducible apply ev_for | with_reducible apply ev_items | with_reducible apply ev_comp | with_reducible apply ev_isi | with_reducible apply ev_strs | with_reducible apply ev_pVarF | with_reducible apply ev_fVar | with_reducible apply ev_rng1 | with_reducible exact ev_iLe | with_reducible exact ev_iLt | with_reducible exact ev_iGe | with_reducible exact ev_iGt | with_reducible exact ev_iAdd | with_reducible exact ev_iSub | with_reducible apply ev_iMul | with_reducible apply ev_iMod | with_reducible apply ev_iDiv | with_reducible apply ev_iPow | with_reducible exact ev_bInt | with_reducible exact ev_bLenS | with_reducible exact ev_bLenU | with_reducible exact ev_bLenD | with_reducible apply ev_bLenT | with_reducible exact ev_bLstS | with_reducible exact ev_bLstD | with_reducible apply ev_bLstStr | with_reducible apply ev_xLst | with_reducible apply ev_xTup | with_reducible assumption | ((with_reducible show _[_]? = some _); rfl) | ((with_reducible show tyN _ = some _); rfl) | ((with_reducible show compF _ _ _ _ _ _ = some _); assumption) | ((with_reducible show forF _ _ _ _ = some _); assumption) | ((with_reducible show ∀ k ∈ Tg.slots _, k ∈ _); simp [Tg.slots]) | ((with_reducible show List.length _ = _); rfl) | ((with_reducible show List.any _ _ = _); rfl)))
  refine ev_fzO rfl ?_
  show sRet _ ⟨some s1, [.spr, .frz (.int m), .frz (.lst (ns.map .str)), .no, .no], fun _ => none⟩ = _
  have q1 : fClS Φ__law_mixed 2 (qSpr 0 (qCons (fVar 2) qNil)) ⟨some s1, [.spr, .frz (.int m), .frz (.lst (ns.map .str)), .no, .no], fun _ => none⟩ = some (nw (.lst (ps.map .str)), some s2) := by
    (repeat' (first | with_reducible assumption | with_reducible apply ev_seq | with_reducible apply ev_sifF | with_reducible apply ev_set | with_reducible apply ev_ret | with_reducible apply ev_bin | with_reducible apply ev_pE | with_reducible apply ev_pE' | with_reducible exact ev_fC | with_reducible apply ev_tOrF | with_reducible apply ev_tAnT | with_reducible apply ev_tNt | with_reducible apply ev_tEb | with_reducible apply ev_app | with_reducible exact ev_aNil | with_reducible apply ev_aCons | with_reducible apply ev_kCons | with_reducible exact ev_qNil | with_reducible apply ev_qSpr | with_reducible apply ev_qCons | with_reducible apply ev_cl | with_reducible apply ev_clS | with_reducible apply ev_tup | with_reducible apply ev_lst | with_reducible apply ev_ifT | with_reducible apply ev_chainT | with_reducible exact ev_nx | with_reducible apply ev_sprT0 | with_reducible apply ev_sprT1 | with_reducible apply ev_sprT2 | with_reducible apply ev_spr0 | with_reducible apply ev_spr1 | with_reducible apply ev_spr2 | with_reducible apply ev_for | with_reducible apply ev_items | with_reducible apply ev_comp | with_reducible apply ev_isi | with_reducible apply ev_strs | with_reducible apply ev_pVarF | with_reducible apply ev_fVar | with_reducible apply ev_rng1 | with_reducible exact ev_iLe | with_reducible exact ev_iLt | with_reducible exact ev_iGe | with_reducible exact ev_iGt | with_reducible exact ev_iAdd | with_reducible exact ev_iSub | with_reducible apply ev_iMul | with_reducible apply ev_iMod | with_reducible apply ev_iDiv | with_reducible apply ev_iPow | with_reducible exact ev_bInt | with_reducible exact ev_bLenS | with_reducible exact ev_bLenU | with_reducible exact ev_bLenD | with_reducible apply ev_bLenT | with_reducible exact ev_bLstS | with_reducible exact ev_bLstD | with_reducible apply ev_bLstStr | with_reducible apply ev_xLst | with_reducible apply ev_xTup | with_reducible assumption | ((with_reducible show _[_]? = some _); rfl) | ((with_reducible show tyN _ = some _); rfl) | ((with_reducible show compF _ _ _ _ _ _ = some _); assumption) | ((with_reducible show forF _ _ _ _ = some _); assumption) | ((with_reducible show ∀ k ∈ Tg.slots _, k ∈ _); simp [Tg.slots]) | ((with_reducible show List.length _ = _); rfl) | ((with_reducible show List.any _ _ = _); rfl)))
  have q3 : fItems (fClS Φ__law_b_shape 2 (qSpr 0 (qCons (fVar 1) qNil))) ⟨some s2, [.spr, .frz (.int m), .frz (.lst (ns.map .str)), .no, .no], fun _ => none⟩ = some (gs.map gD, some s3) := by
    refine ev_items (r := nw (.lst (gs.map gD))) ?_ (.inl rfl)
    (repeat' (first | with_reducible assumption | with_reducible apply ev_seq | with_reducible apply ev_sifF | with_reducible apply ev_set | with_reducible apply ev_ret | with_reducible apply ev_bin | with_reducible apply ev_pE | with_reducible apply ev_pE' | with_reducible exact ev_fC | with_reducible apply ev_tOrF | with_reducible apply ev_tAnT | with_reducible apply ev_tNt | with_reducible apply ev_tEb | with_reducible apply ev_app | with_reducible exact ev_aNil | with_reducible apply ev_aCons | with_reducible apply ev_kCons | with_reducible exact ev_qNil | with_reducible apply ev_qSpr | with_reducible apply ev_qCons | with_reducible apply ev_cl | with_reducible apply ev_clS | with_reducible apply ev_tup | with_reducible apply ev_lst | with_reducible apply ev_ifT | with_reducible apply ev_chainT | with_reducible exact ev_nx | with_reducible apply ev_sprT0 | with_reducible apply ev_sprT1 | with_reducible apply ev_sprT2 | with_reducible apply ev_spr0 | with_reducible apply ev_spr1 | with_reducible apply ev_spr2 | with_reducible apply ev_for | with_reducible apply ev_items | with_reducible apply ev_comp | with_reducible apply ev_isi | with_reducible apply ev_strs | with_reducible apply ev_pVarF | with_reducible apply ev_fVar | with_reducible apply ev_rng1 | with_reducible exact ev_iLe | with_reducible exact ev_iLt | with_reducible exact ev_iGe | with_reducible exact ev_iGt | with_reducible exact ev_iAdd | with_reducible exact ev_iSub | with_reducible apply ev_iMul | with_reducible apply ev_iMod | with_reducible apply ev_iDiv | with_reducible apply ev_iPow | with_reducible exact ev_bInt | with_reducible exact ev_bLenS | with_reducible exact ev_bLenU | with_reducible exact ev_bLenD | with_reducible apply ev_bLenT | with_reducible exact ev_bLstS | with_reducible exact ev_bLstD | with_reducible apply ev_bLstStr | with_reducible apply ev_xLst | with_reducible apply ev_xTup | with_reducible assumption | ((with_reducible show _[_]? = some _); rfl) | ((with_reducible show tyN _ = some _); rfl) | ((with_reducible show compF _ _ _ _ _ _ = some _); assumption) | ((with_reducible show forF _ _ _ _ = some _); assumption) | ((with_reducible show ∀ k ∈ Tg.slots _, k ∈ _); simp [Tg.slots]) | ((with_reducible show List.length _ = _); rfl) | ((with_reducible show List.any _ _ = _); rfl)))
  have q4 : compF (.tp [3, 4]) tYes' (fTup (kCons (fBin xLst (pVar 2) (pVar 3)) (kCons (fBin xLst (pVar 2) (pVar 4)) aNil))) ⟨some s2, [.spr, .frz (.int m), .frz (.lst (ns.map .str)), .no, .no], fun _ => none⟩ (gs.map gD) (some s3) = some (gs.map fun g => wD (ns.getD g.1 (Str.ofString ""), ns.getD g.2 (Str.ofString "")), some s3) := by
    refine compF_mapx fun g hg => ?_
    have hb : g.1 < ns.length ∧ g.2 < ns.length := by
      have : nrm g ∈ prs m := c2 ▸ List.mem_map.mpr ⟨g, hg, rfl⟩
      obtain ⟨a, b⟩ := g
      unfold nrm at this
      split at this
      · have := mem_prs.mp this; simp only; omega
      · have := mem_prs.mp this; simp only at this ⊢; omega
    have e1 : xLst (.lst (ns.map .str)) (.int g.1) = some (fz (.str (ns.getD g.1 (Str.ofString "")))) := ev_xLst (atI_getD hb.1)
    have e2 : xLst (.lst (ns.map .str)) (.int g.2) = some (fz (.str (ns.getD g.2 (Str.ofString "")))) := ev_xLst (atI_getD hb.2)
    refine ⟨⟨some s3, [.spr, .frz (.int m), .frz (.lst (ns.map .str)), .frz (.int g.1), .frz (.int g.2)], fun _ => none⟩, fz (.tup [.str (ns.getD g.1 (Str.ofString "")), .str (ns.getD g.2 (Str.ofString ""))]), rfl, rfl, ?_, rfl⟩
    show fTup _ ⟨some s3, [.spr, .frz (.int m), .frz (.lst (ns.map .str)), .frz (.int g.1), .frz (.int g.2)], fun _ => none⟩ = _
    refine ev_tup (S1 := some s3) (ds := [.str (ns.getD g.1 (Str.ofString "")), .str (ns.getD g.2 (Str.ofString ""))]) ?_ (by simp)
    exact ev_kCons (r := fz _) (S1 := some s3) (ev_bin (S1 := some s3) (ev_pVarF rfl) (ev_pVarF rfl) e1) (ev_kCons (r := fz _) (S1 := some s3) (ev_bin (S1 := some s3) (ev_pVarF rfl) (ev_pVarF rfl) e2) rfl)
  have q5 := ev_comp (f := (fTup (kCons (fBin xLst (pVar 2) (pVar 3)) (kCons (fBin xLst (pVar 2) (pVar 4)) aNil)))) (T := .tp [3, 4]) (t := tYes') (vs := [3, 4]) q3 (by simp; omega) (by simp [Tg.slots]) q4
  have q2 : fClS Φ__law_mixed 2 (qSpr 0 (qCons (fComp (fItems (fClS Φ__law_b_shape 2 (qSpr 0 (qCons (fVar 1) qNil)))) (.tp [3, 4]) [3, 4] tYes' (fTup (kCons (fBin xLst (pVar 2) (pVar 3)) (kCons (fBin xLst (pVar 2) (pVar 4)) aNil)))) qNil)) ⟨some s2, [.spr, .frz (.int m), .frz (.lst (ns.map .str)), .no, .no], fun _ => none⟩ = some (nw (.lst (ws.map wD)), some s4) := by
    rw [List.map_map] at d1
    exact ev_clS (ev_qSpr rfl (ev_qCons q5 rfl)) rfl d1
  have q6 := ev_kCons q1 (ev_kCons q2 (ev_aNil (S := some s4)))
  exact ev_ret (ev_tup q6 (by simp))
end Al.Cm


set_option Elab.async false
set_option linter.all false
set_option maxRecDepth 100000
/-! Plain facts: order, dicts. -/
namespace Al.Cm
open PySem PySem.Spec PyProof.Rows L2 Al
def LE (a b : Str) : Prop := leD (.str a) (.str b) = true
theorem LE_iff {a b : Str} : LE a b ↔ ¬ b.cps.toList < a.cps.toList := by
  unfold LE
  rw [leD_str, PyProof.Rows.ltCps_eq]
  simp
theorem LE_total (a b : Str) : LE a b ∨ LE b a := leD_total.total _ _
theorem LE_trans {a b c : Str} (h : LE a b) (k : LE b c) : LE a c := leD_total.trans _ _ _ h k
theorem LE_anti {a b : Str} (h : LE a b) (k : LE b a) : a = b := str_inj (leD_anti h k)
/-- names in order -/
theorem sort_strs (ps : List Str) : ∃ qs : List Str, qs.Perm ps ∧ sortD (ps.map .str) = qs.map .str ∧ qs.Pairwise LE := by
  obtain ⟨qs, h1, h2⟩ := perm_map_inv (sortD_perm (ps.map D.str))
  refine ⟨qs, h1, h2, ?_⟩
  have := sortD_pw (ps.map D.str)
  rw [h2, List.pairwise_map] at this
  exact this
theorem sort_uniq {ps qs : List Str} (h : qs.Perm ps) (k : qs.Pairwise LE) : sortD (ps.map .str) = qs.map .str := by
  obtain ⟨qs', h1, h2, h3⟩ := sort_strs ps
  rw [h2]
  refine perm_sorted (le := leD) ((h1.trans h.symm).map D.str) ?_ ?_ ?_
  · rw [List.pairwise_map]; exact h3
  · rw [List.pairwise_map]; exact k
  · intro a ha b hb h1 h2
    obtain ⟨x, _, rfl⟩ := List.mem_map.mp ha
    obtain ⟨y, _, rfl⟩ := List.mem_map.mp hb
    rw [str_inj (leD_anti h1 h2)]
theorem min_str {a b : Str} (h : LE a b) : bMinS [.str a, .str b] = some (fz (.str a)) ∧ bMinS [.str b, .str a] = some (fz (.str a)) := by
  have h1 := LE_iff.mp h
  refine ⟨by unfold bMinS; simp only [h1, if_false], ?_⟩
  unfold bMinS
  by_cases h2 : a.cps.toList < b.cps.toList
  · simp only [h2, if_true]
  · simp only [h2, if_false]
    rw [LE_anti h (LE_iff.mpr h2)]
theorem max_str {a b : Str} (h : LE a b) : bMaxS [.str a, .str b] = some (fz (.str b)) ∧ bMaxS [.str b, .str a] = some (fz (.str b)) := by
  have h1 := LE_iff.mp h
  refine ⟨?_, by unfold bMaxS; simp only [h1, if_false]⟩
  unfold bMaxS
  by_cases h2 : a.cps.toList < b.cps.toList
  · simp only [h2, if_true]
  · simp only [h2, if_false]
    rw [LE_anti h (LE_iff.mpr h2)]
/-! dicts by a function -/
section
variable {κ α : Type} [DecidableEq κ] {key : α → κ} {v : α → D} {ks : List α} {k : α}
theorem getK_map (inj : ∀ a ∈ ks, ∀ b ∈ ks, key a = key b → a = b) (h : k ∈ ks) : getK (ks.map fun a => (key a, v a)) (key k) = some (v k) := by
  induction ks with
  | nil => cases h
  | cons a ks ih =>
    unfold getK
    rw [List.map_cons, List.find?_cons]
    by_cases e : key a = key k
    · have : a = k := inj a List.mem_cons_self k h e
      subst this
      simp
    · simp only [e, decide_false]
      have hk : k ∈ ks := by
        rcases List.mem_cons.mp h with rfl | h
        · exact absurd rfl e
        · exact h
      exact ih (fun a ha b hb => inj a (List.mem_cons_of_mem _ ha) b (List.mem_cons_of_mem _ hb)) hk
theorem putD_map {d : D} [DecidableEq α] (inj : ∀ a ∈ ks, ∀ b ∈ ks, key a = key b → a = b) (h : k ∈ ks) : putD (ks.map fun a => (key a, v a)) (key k) d = ks.map fun a => (key a, if a = k then d else v a) := by
  unfold putD
  rw [if_pos]
  · rw [List.map_map]
    refine List.map_congr_left fun a ha => ?_
    simp only [Function.comp]
    by_cases e : a = k
    · subst e; simp
    · have : ¬ key a = key k := fun q => e (inj a ha k h q)
      simp [this, e]
  · rw [List.any_map, List.any_eq_true]
    exact ⟨k, h, by simp⟩
theorem putD_new {ks : List (κ × D)} {k : κ} {d : D} (h : ∀ p ∈ ks, p.1 ≠ k) : putD ks k d = ks ++ [(k, d)] := by
  unfold putD
  rw [if_neg]
  rw [List.any_eq_true]
  rintro ⟨p, hp, e⟩
  exact h p hp (by simpa using e)
end
theorem setK_map {α : Type} [DecidableEq α] {key : α → Key} {v : α → D} {d : D} : ∀ {ks : List α} {k : α}, ks.Nodup → (∀ a ∈ ks, ∀ b ∈ ks, key a = key b → a = b) → k ∈ ks → setK (ks.map fun a => (key a, v a)) (key k) d = ks.map fun a => (key a, if a = k then d else v a)
  | a :: ks, k, hn, inj, h => by
    have hc := List.nodup_cons.mp hn
    rw [List.map_cons, List.map_cons, setK]
    by_cases e : key a = key k
    · have : a = k := inj a List.mem_cons_self k h e
      subst this
      rw [if_pos rfl, if_pos rfl]
      congr 1
      refine List.map_congr_left fun b hb => ?_
      rw [if_neg (fun (q : b = a) => hc.1 (q ▸ hb))]
    · have hne : a ≠ k := fun q => e (by rw [q])
      have hk : k ∈ ks := by
        rcases List.mem_cons.mp h with rfl | h
        · exact absurd rfl e
        · exact h
      rw [if_neg e, if_neg hne, setK_map hc.2 (fun a ha b hb => inj a (List.mem_cons_of_mem _ ha) b (List.mem_cons_of_mem _ hb)) hk]
end Al.Cm


set_option Elab.async false
set_option linter.all false
set_option maxRecDepth 100000
/-! Plain facts: what is handed to Plays. -/
namespace Al.Cm
open PySem PySem.Spec PyProof.Rows L2 Al
theorem isPys_all {ds : List D} (h : ∀ d ∈ ds, isPy d = true) : isPys ds = true := by
  induction ds with
  | nil => rfl
  | cons d ds ih => unfold isPys; rw [h d List.mem_cons_self, ih fun x hx => h x (List.mem_cons_of_mem _ hx)]; rfl
theorem sortOk_of {α : Type} {xs : List α} {f : α → D} (h1 : ∀ x, isPy (f x) = true) (h2 : ∀ x y, PySem.W.alike (toPy (f x)) (toPy (f y)) = true) (h3 : (∀ x, ∃ a r, toPy (f x) = .tuple (a :: r)) ∨ ∀ x, toPy (f x) ≠ .none ∧ ∀ ys, toPy (f x) ≠ .tuple ys) (h4 : ∀ x, (toPy (f x)).depth ≤ 60) : SortOk (xs.map f) := by
  refine ⟨isPys_all fun d hd => ?_, ?_, ?_, fun d hd => ?_⟩
  · obtain ⟨x, _, rfl⟩ := List.mem_map.mp hd; exact h1 x
  · intro d hd d' hd'
    rw [List.map_map] at hd hd'
    obtain ⟨x, _, rfl⟩ := List.mem_map.mp hd
    obtain ⟨y, _, rfl⟩ := List.mem_map.mp hd'
    exact h2 x y
  · rcases h3 with h3 | h3
    · left
      intro d hd
      rw [List.map_map] at hd
      obtain ⟨x, _, rfl⟩ := List.mem_map.mp hd
      exact h3 x
    · right
      intro d hd
      rw [List.map_map] at hd
      obtain ⟨x, _, rfl⟩ := List.mem_map.mp hd
      exact h3 x
  · obtain ⟨x, _, rfl⟩ := List.mem_map.mp hd; exact h4 x
theorem sortOk_strs (xs : List Str) : SortOk (xs.map D.str) := sortOk_of (fun _ => rfl) (fun _ _ => by simp [toPy, PySem.W.alike]) (.inr fun x => ⟨by simp [toPy], by simp [toPy]⟩) (fun x => by simp [toPy, PyData.depth])
theorem sortOk_ints (xs : List Int) : SortOk (xs.map D.int) := sortOk_of (fun _ => rfl) (fun _ _ => by simp [toPy, PySem.W.alike]) (.inr fun x => ⟨by simp [toPy], by simp [toPy]⟩) (fun x => by simp [toPy, PyData.depth])
theorem sortOk_ws (xs : List (Str × Str)) : SortOk (xs.map wD) := sortOk_of (fun _ => rfl) (fun _ _ => by simp [toPy, toPys, wD, PySem.W.alike, PySem.W.alikeAll]) (.inl fun x => ⟨.str x.1, [.str x.2], by simp [toPy, toPys, wD]⟩) (fun x => by simp [toPy, toPys, wD, PyData.depth, PyData.depthAll])
theorem sort_ev (ps : List Str) {qs : List Str} (h : qs.Perm ps) (k : qs.Pairwise LE) : bSortL [.lst (ps.map .str)] = some (nw (.lst (qs.map .str))) := by
  unfold bSortL
  simp only
  rw [if_pos (sortOk_strs ps), sort_uniq h k]
theorem strsK_nd {ns : List Str} {f : Str → D} : strsK (ns.map fun s => ((Sum.inr s : Key), f s)) = some ns := by
  induction ns with
  | nil => rfl
  | cons n ns ih => rw [List.map_cons, strsK, ih]; rfl
theorem sortD_ev {ps qs : List Str} {f : Str → D} (h : qs.Perm ps) (k : qs.Pairwise LE) (hl : ps.length < 64) : bSortD [.dk (ps.map fun s => ((Sum.inr s : Key), f s))] = some (nw (.lst (qs.map .str))) := by
  unfold bSortD
  simp only
  rw [strsK_nd]
  simp only [Option.bind_some]
  rw [if_pos hl, sort_uniq h k]
theorem compKF_new {T : Tg} {c : TF} {fk : PF} {fv : FE} {e : En} {S : Option Spr} {v : D} {g : Str → D} : ∀ {xs acc : List Str}, (acc ++ xs).Nodup → (∀ x ∈ xs, ∃ e1 r, tgD T (g x) (e.st S) = some e1 ∧ c e1 = some (true, S) ∧ fk (e1.st S) = some (.str x, S) ∧ fv (e1.st S) = some (r, S) ∧ r.d = v) → compKF T c fk fv e (xs.map g) (nd acc v) S = some (nd (acc ++ xs) v, S)
  | [], acc, _, _ => by simp [compKF]
  | x :: xs, acc, hn, h => by
    obtain ⟨e1, r, h1, h2, h3, h4, h5⟩ := h x List.mem_cons_self
    have hx : x ∉ acc := fun hx => (List.nodup_append.mp hn).2.2 x hx x List.mem_cons_self rfl
    have ih := compKF_new (T := T) (c := c) (fk := fk) (fv := fv) (e := e) (S := S) (v := v) (g := g) (xs := xs) (acc := acc ++ [x]) (by simpa using hn) fun y hy => h y (List.mem_cons_of_mem _ hy)
    have hp : putD (nd acc v) (Sum.inr x : Key) v = nd (acc ++ [x]) v := putD_nd hx
    rw [List.map_cons, compKF]
    simp only [h1, h2, h3, h4, h5, Option.bind_some, if_true, toKey, hp]
    rw [ih]
    simp
theorem ev_dc {s : AF} {T : Tg} {t : TF} {f : PF} {g : FE} {vs : List Nat} {ds : List D} {S S1 S2 : Option Spr} {cs : List Cell} {B : Hp} {kvs : List (Key × D)} (h1 : s ⟨S, cs, B⟩ = some (ds, S1)) (hz : ds.length ≤ 100000) (hv : ∀ k ∈ T.slots, k ∈ vs) (h2 : compKF T t f g ((En.mk S cs B).wipe vs) ds [] S1 = some (kvs, S2)) : fDc s T vs t f g ⟨S, cs, B⟩ = some (nw (.dk kvs), S2) := by
  unfold fDc; rw [h1, Option.bind_some]
  show (if ds.length ≤ 100000 ∧ (∀ k ∈ T.slots, k ∈ vs) then _ else none) = _
  rw [if_pos ⟨hz, hv⟩, h2]; rfl
theorem are_players_ok {ps : List Str} (h : ∀ y ∈ ps, Nm 7 y) (hn : ps.Nodup) (hl : 1 ≤ ps.length ∧ ps.length ≤ 31) : Φ_are_players [.lst (ps.map .str)] = some (fz (.bl true)) := by
  have comp : compF (.nm 1) tYes' (fCl Φ_is_name 1 (kCons (fVar 1) aNil)) ⟨none, [.frz (.lst (ps.map .str)), .no], fun _ => none⟩ (ps.map .str) none = some (ps.map (fun _ => D.bl true), none) := by
    refine compF_mapx fun x hx => ?_
    have hi := is_name_ok ((h x hx).up (by decide)).ok
    refine ⟨⟨none, [.frz (.lst (ps.map .str)), .frz (.str x)], fun _ => none⟩, fz (.bl true), rfl, rfl, ?_, rfl⟩
    show fCl Φ_is_name 1 (kCons (fVar 1) aNil) ⟨none, [.frz (.lst (ps.map .str)), .frz (.str x)], fun _ => none⟩ = _
    (repeat' (first | with_reducible assumption | with_reducible apply ev_seq | with_reducible apply ev_sifF | with_reducible apply ev_set | with_reducible apply ev_ret | with_reducible apply ev_bin | with_reducible apply ev_pE | with_reducible apply ev_pE' | with_reducible exact ev_fC | with_reducible apply ev_tOrF | with_reducible apply ev_tAnT | with_reducible apply ev_tNt | with_reducible apply ev_tEb | with_reducible apply ev_app | with_reducible exact ev_aNil | with_reducible apply ev_aCons | with_reducible apply ev_kCons | with_reducible exact ev_qNil | with_reducible apply ev_qSpr | with_reducible apply ev_qCons | with_reducible apply ev_cl | with_reducible apply ev_clS | with_reducible apply ev_tup | with_reducible apply ev_lst | with_reducible apply ev_ifT | with_reducible apply ev_chainT | with_reducible exact ev_nx | with_reducible apply ev_sprT0 | with_reducible apply ev_sprT1 | with_reducible apply ev_sprT2 | with_reducible apply ev_spr0 | with_reducible apply ev_spr1 | with_reducible apply ev_spr2 | with_reducible apply ev_for | with_reducible apply ev_items | with_reducible apply ev_comp | with_reducible apply ev_isi | with_reducible apply ev_strs | with_reducible apply ev_pVarF | with_reducible apply ev_fVar | with_reducible apply ev_rng1 | with_reducible exact ev_iLe | with_reducible exact ev_iLt | with_reducible exact ev_iGe | with_reducible exact ev_iGt | with_reducible exact ev_iAdd | with_reducible exact ev_iSub | with_reducible apply ev_iMul | with_reducible apply ev_iMod | with_reducible apply ev_iDiv | with_reducible apply ev_iPow | with_reducible exact ev_bInt | with_reducible exact ev_bLenS | with_reducible exact ev_bLenU | with_reducible exact ev_bLenD | with_reducible apply ev_bLenT | with_reducible exact ev_bLstS | with_reducible exact ev_bLstD | with_reducible apply ev_bLstStr | with_reducible apply ev_xLst | with_reducible apply ev_xTup | with_reducible assumption | ((with_reducible show _[_]? = some _); rfl) | ((with_reducible show tyN _ = some _); rfl) | ((with_reducible show compF _ _ _ _ _ _ = some _); assumption) | ((with_reducible show forF _ _ _ _ = some _); assumption) | ((with_reducible show ∀ k ∈ Tg.slots _, k ∈ _); simp [Tg.slots]) | ((with_reducible show List.length _ = _); rfl) | ((with_reducible show List.any _ _ = _); rfl)))
  have ck : compKF (.nm 1) tYes' (pVar 1) (fC (.bl true)) ⟨none, [.frz (.lst (ps.map .str)), .no], fun _ => none⟩ (ps.map .str) [] none = some (nd ps (.bl true), none) := by
    refine compKF_new (acc := []) (by simpa using hn) fun x hx => ?_
    exact ⟨⟨none, [.frz (.lst (ps.map .str)), .frz (.str x)], fun _ => none⟩, fz (.bl true), rfl, rfl, rfl, rfl, rfl⟩
  have hs := is_list_lst (ps.map .str)
  have hlen : (ps.map D.str).length = ps.length := by simp
  have q1 : tNt (tEb (fCl Φ_is_list 1 (kCons (fVar 0) aNil))) ⟨none, [.frz (.lst (ps.map .str)), .no], fun _ => none⟩ = some (false, none) := by
    refine ev_tNt (x := true) (ev_tEb ?_)
    (repeat' (first | with_reducible assumption | with_reducible apply ev_seq | with_reducible apply ev_sifF | with_reducible apply ev_set | with_reducible apply ev_ret | with_reducible apply ev_bin | with_reducible apply ev_pE | with_reducible apply ev_pE' | with_reducible exact ev_fC | with_reducible apply ev_tOrF | with_reducible apply ev_tAnT | with_reducible apply ev_tNt | with_reducible apply ev_tEb | with_reducible apply ev_app | with_reducible exact ev_aNil | with_reducible apply ev_aCons | with_reducible apply ev_kCons | with_reducible exact ev_qNil | with_reducible apply ev_qSpr | with_reducible apply ev_qCons | with_reducible apply ev_cl | with_reducible apply ev_clS | with_reducible apply ev_tup | with_reducible apply ev_lst | with_reducible apply ev_ifT | with_reducible apply ev_chainT | with_reducible exact ev_nx | with_reducible apply ev_sprT0 | with_reducible apply ev_sprT1 | with_reducible apply ev_sprT2 | with_reducible apply ev_spr0 | with_reducible apply ev_spr1 | with_reducible apply ev_spr2 | with_reducible apply ev_for | with_reducible apply ev_items | with_reducible apply ev_comp | with_reducible apply ev_isi | with_reducible apply ev_strs | with_reducible apply ev_pVarF | with_reducible apply ev_fVar | with_reducible apply ev_rng1 | with_reducible exact ev_iLe | with_reducible exact ev_iLt | with_reducible exact ev_iGe | with_reducible exact ev_iGt | with_reducible exact ev_iAdd | with_reducible exact ev_iSub | with_reducible apply ev_iMul | with_reducible apply ev_iMod | with_reducible apply ev_iDiv | with_reducible apply ev_iPow | with_reducible exact ev_bInt | with_reducible exact ev_bLenS | with_reducible exact ev_bLenU | with_reducible exact ev_bLenD | with_reducible apply ev_bLenT | with_reducible exact ev_bLstS | with_reducible exact ev_bLstD | with_reducible apply ev_bLstStr | with_reducible apply ev_xLst | with_reducible apply ev_xTup | with_reducible assumption | ((with_reducible show _[_]? = some _); rfl) | ((with_reducible show tyN _ = some _); rfl) | ((with_reducible show compF _ _ _ _ _ _ = some _); assumption) | ((with_reducible show forF _ _ _ _ = some _); assumption) | ((with_reducible show ∀ k ∈ Tg.slots _, k ∈ _); simp [Tg.slots]) | ((with_reducible show List.length _ = _); rfl) | ((with_reducible show List.any _ _ = _); rfl)))
  have q2 : fApp bLenS (aCons (pVar 0) aNil) ⟨none, [.frz (.lst (ps.map .str)), .no], fun _ => none⟩ = some (fz (.int ps.length), none) := by
    rw [← hlen]
    (repeat' (first | with_reducible assumption | with_reducible apply ev_seq | with_reducible apply ev_sifF | with_reducible apply ev_set | with_reducible apply ev_ret | with_reducible apply ev_bin | with_reducible apply ev_pE | with_reducible apply ev_pE' | with_reducible exact ev_fC | with_reducible apply ev_tOrF | with_reducible apply ev_tAnT | with_reducible apply ev_tNt | with_reducible apply ev_tEb | with_reducible apply ev_app | with_reducible exact ev_aNil | with_reducible apply ev_aCons | with_reducible apply ev_kCons | with_reducible exact ev_qNil | with_reducible apply ev_qSpr | with_reducible apply ev_qCons | with_reducible apply ev_cl | with_reducible apply ev_clS | with_reducible apply ev_tup | with_reducible apply ev_lst | with_reducible apply ev_ifT | with_reducible apply ev_chainT | with_reducible exact ev_nx | with_reducible apply ev_sprT0 | with_reducible apply ev_sprT1 | with_reducible apply ev_sprT2 | with_reducible apply ev_spr0 | with_reducible apply ev_spr1 | with_reducible apply ev_spr2 | with_reducible apply ev_for | with_reducible apply ev_items | with_reducible apply ev_comp | with_reducible apply ev_isi | with_reducible apply ev_strs | with_reducible apply ev_pVarF | with_reducible apply ev_fVar | with_reducible apply ev_rng1 | with_reducible exact ev_iLe | with_reducible exact ev_iLt | with_reducible exact ev_iGe | with_reducible exact ev_iGt | with_reducible exact ev_iAdd | with_reducible exact ev_iSub | with_reducible apply ev_iMul | with_reducible apply ev_iMod | with_reducible apply ev_iDiv | with_reducible apply ev_iPow | with_reducible exact ev_bInt | with_reducible exact ev_bLenS | with_reducible exact ev_bLenU | with_reducible exact ev_bLenD | with_reducible apply ev_bLenT | with_reducible exact ev_bLstS | with_reducible exact ev_bLstD | with_reducible apply ev_bLstStr | with_reducible apply ev_xLst | with_reducible apply ev_xTup | with_reducible assumption | ((with_reducible show _[_]? = some _); rfl) | ((with_reducible show tyN _ = some _); rfl) | ((with_reducible show compF _ _ _ _ _ _ = some _); assumption) | ((with_reducible show forF _ _ _ _ = some _); assumption) | ((with_reducible show ∀ k ∈ Tg.slots _, k ∈ _); simp [Tg.slots]) | ((with_reducible show List.length _ = _); rfl) | ((with_reducible show List.any _ _ = _); rfl)))
  have q3 : tNt (tEb (fChain iLe iLe (pE (fC (.int 1))) (pE (fApp bLenS (aCons (pVar 0) aNil))) (pE (fC (.int 31))))) ⟨none, [.frz (.lst (ps.map .str)), .no], fun _ => none⟩ = some (false, none) := by
    refine ev_tNt (x := true) (ev_tEb ?_)
    have : (true : Bool) = decide ((ps.length : Int) ≤ 31) := (decide_eq_true (by omega)).symm
    rw [this]
    exact ev_chainT (x := decide (1 ≤ (ps.length : Int))) (S1 := none) (S2 := none) rfl (ev_pE q2) rfl (decide_eq_true (by omega)) rfl rfl
  have q4 : tNt (tEb (fApp bAll (aCons (pE (fComp (fItems (fVar 0)) (.nm 1) [1] tYes' (fCl Φ_is_name 1 (kCons (fVar 1) aNil)))) aNil))) ⟨none, [.frz (.lst (ps.map .str)), .no], fun _ => none⟩ = some (false, none) := by
    refine ev_tNt (x := true) (ev_tEb (ev_app (ev_aCons (ev_pE (ev_comp (S1 := none) (ev_items (ds := ps.map .str) (ev_fVar rfl) (.inl rfl)) (by omega) (by simp [Tg.slots]) comp)) ev_aNil) bAll_true))
  apply ev_runF
  refine ⟨⟨none, [.frz (.lst (ps.map .str)), .no], fun _ => none⟩, ?_⟩
  show g_are_players ⟨none, [.frz (.lst (ps.map .str)), .no], fun _ => none⟩ = _
  unfold g_are_players
  refine ev_seq (ev_sifF (x := false) (ev_tOrF q1 rfl (ev_tOrF q3 rfl q4)) rfl ev_nx) ?_
  have q5 : pE (fApp bLenD (aCons (pE (fDc (fItems (fVar 0)) (.nm 1) [1] tYes' (pVar 1) (fC (.bl true)))) aNil)) ⟨none, [.frz (.lst (ps.map .str)), .no], fun _ => none⟩ = some (.int ps.length, none) := by
    have : bLenD [.dk (nd ps (.bl true))] = some (fz (.int ps.length)) := by rw [ev_bLenD]; simp [nd]
    exact ev_pE (r := fz _) (ev_app (ev_aCons (ev_pE (ev_dc (S1 := none) (ev_items (ds := ps.map .str) (ev_fVar rfl) (.inl rfl)) (by omega) (by simp [Tg.slots]) ck)) ev_aNil) this)
  have q6 := ev_ret (ev_bin (o := gEq) q5 (ev_pE q2) (eqI ps.length ps.length))
  simp only [decide_true] at q6
  exact q6
end Al.Cm


set_option Elab.async false
set_option linter.all false
set_option maxRecDepth 100000
/-! Plain facts: pairs handed to Plays. -/
namespace Al.Cm
open PySem PySem.Spec PyProof.Rows L2 Al
theorem isStr_of {S : Option Spr} {cs : List Cell} {B : Hp} {i : Nat} {x : Str} (h : cs[i]? = some (.frz (.str x))) : fIsi ["str"] (pVar i) ⟨S, cs, B⟩ = some (fz (.bl true), S) := ev_isi (ev_pVarF h) rfl rfl
theorem are_pairs_ok {qs : List Str} {ws : List (Str × Str)} {d : D} (h : ∀ w ∈ ws, w.1 ∈ qs ∧ w.2 ∈ qs ∧ w.1 ≠ w.2) : Φ_are_pairs [.dk (nd qs d), .lst (ws.map wD)] = some (fz (.bl true)) := by
  have hs := is_list_lst (ws.map wD)
  have body : ∀ w ∈ ws, ∀ c3, ∃ c3', (sSeq (sIf (tOr' (tNt (tEb (fCl Φ_is_list 1 (kCons (fVar 2) aNil)))) (tOr' (tEb (fBin gNe (pE (fApp bLenS (aCons (pVar 2) aNil))) (pE (fC (.int 2))))) (tNt (tEb (fApp bAll (aCons (pE (fComp (fItems (fVar 2)) (.nm 3) [3] tYes' (fAn (fIsi ["str"] (pVar 3)) (fDin false (pVar 3) (pVar 0))))) aNil)))))) (sRet (fC (.bl false))) sNx) (sIf (tEb (fBin gEq (pE (fBin xTup (pVar 2) (pE (fC (.int 0))))) (pE (fBin xTup (pVar 2) (pE (fC (.int 1))))))) (sRet (fC (.bl false))) sNx))
      ⟨none, [.frz (.dk (nd qs d)), .frz (.lst (ws.map wD)), .frz (wD w), c3], fun _ => none⟩ = some (.nx, ⟨none, [.frz (.dk (nd qs d)), .frz (.lst (ws.map wD)), .frz (wD w), c3'], fun _ => none⟩) := by
    intro w hw c3
    obtain ⟨w1, w2, w3⟩ := h w hw
    refine ⟨c3, ?_⟩
    have ht := is_list_tup [.str w.1, .str w.2]
    have q1 : tNt (tEb (fCl Φ_is_list 1 (kCons (fVar 2) aNil))) ⟨none, [.frz (.dk (nd qs d)), .frz (.lst (ws.map wD)), .frz (wD w), c3], fun _ => none⟩ = some (false, none) :=
      ev_tNt (x := true) (ev_tEb (ev_cl (ev_kCons (r := fz (wD w)) (ev_fVar rfl) ev_aNil) rfl ht))
    have q2 : tEb (fBin gNe (pE (fApp bLenS (aCons (pVar 2) aNil))) (pE (fC (.int 2)))) ⟨none, [.frz (.dk (nd qs d)), .frz (.lst (ws.map wD)), .frz (wD w), c3], fun _ => none⟩ = some (false, none) := rfl
    have dn : ∀ x, x ∈ qs → fAn (fIsi ["str"] (pVar 3)) (fDin false (pVar 3) (pVar 0)) ⟨none, [.frz (.dk (nd qs d)), .frz (.lst (ws.map wD)), .frz (wD w), .frz (.str x)], fun _ => none⟩ = some (fz (.bl true), none) := fun x hx => by
      unfold fAn
      rw [isStr_of (x := x) rfl]
      show fDin false (pVar 3) (pVar 0) ⟨none, [.frz (.dk (nd qs d)), .frz (.lst (ws.map wD)), .frz (wD w), .frz (.str x)], fun _ => none⟩ = _
      rw [ev_dinN (ns := qs) (d := d) (ev_pVarF rfl) (ev_pVarF rfl), decide_eq_true hx]
    have comp : compF (.nm 3) tYes' (fAn (fIsi ["str"] (pVar 3)) (fDin false (pVar 3) (pVar 0))) ⟨none, [.frz (.dk (nd qs d)), .frz (.lst (ws.map wD)), .frz (wD w), .no], fun _ => none⟩ ([w.1, w.2].map D.str) none = some ([w.1, w.2].map (fun _ => D.bl true), none) := by
      refine compF_mapx fun x hx => ?_
      refine ⟨⟨none, [.frz (.dk (nd qs d)), .frz (.lst (ws.map wD)), .frz (wD w), .frz (.str x)], fun _ => none⟩, fz (.bl true), rfl, rfl, ?_, rfl⟩
      simp at hx
      rcases hx with rfl | rfl
      · exact dn _ w1
      · exact dn _ w2
    have q3 : tNt (tEb (fApp bAll (aCons (pE (fComp (fItems (fVar 2)) (.nm 3) [3] tYes' (fAn (fIsi ["str"] (pVar 3)) (fDin false (pVar 3) (pVar 0))))) aNil))) ⟨none, [.frz (.dk (nd qs d)), .frz (.lst (ws.map wD)), .frz (wD w), c3], fun _ => none⟩ = some (false, none) :=
      ev_tNt (x := true) (ev_tEb (ev_app (ev_aCons (ev_pE (ev_comp (S1 := none) (ev_items (ds := [w.1, w.2].map D.str) (r := fz (wD w)) (ev_fVar rfl) (.inr rfl)) (by simp) (by simp [Tg.slots]) comp)) ev_aNil) bAll_true))
    refine ev_seq (ev_sifF (x := false) (ev_tOrF q1 rfl (ev_tOrF q2 rfl q3)) rfl ev_nx) ?_
    refine ev_sifF (x := decide (w.1 = w.2)) (S1 := none) (ev_tEb ?_) (decide_eq_false w3) ev_nx
    rfl
  obtain ⟨e', f1, f2⟩ := forF_list (T := .nm 2) (b := (sSeq (sIf (tOr' (tNt (tEb (fCl Φ_is_list 1 (kCons (fVar 2) aNil)))) (tOr' (tEb (fBin gNe (pE (fApp bLenS (aCons (pVar 2) aNil))) (pE (fC (.int 2))))) (tNt (tEb (fApp bAll (aCons (pE (fComp (fItems (fVar 2)) (.nm 3) [3] tYes' (fAn (fIsi ["str"] (pVar 3)) (fDin false (pVar 3) (pVar 0))))) aNil)))))) (sRet (fC (.bl false))) sNx) (sIf (tEb (fBin gEq (pE (fBin xTup (pVar 2) (pE (fC (.int 0))))) (pE (fBin xTup (pVar 2) (pE (fC (.int 1))))))) (sRet (fC (.bl false))) sNx)))
    (fun ds e => ∃ xs c2 c3, (∀ w ∈ xs, w ∈ ws) ∧ ds = xs.map wD ∧ e = ⟨none, [.frz (.dk (nd qs d)), .frz (.lst (ws.map wD)), c2, c3], fun _ => none⟩) (fun d' ds e ⟨xs, c2, c3, h1, h2, h3⟩ => by
      subst h3
      match xs, h2 with
      | x :: xs, h2 =>
        obtain ⟨rfl, rfl⟩ := List.cons.inj h2
        obtain ⟨c3', hb⟩ := body x (h1 x List.mem_cons_self) c3
        exact ⟨_, _, rfl, hb, xs, .frz (wD x), c3', fun w hw => h1 w (List.mem_cons_of_mem _ hw), rfl, rfl⟩) (ws.map wD) ⟨none, [.frz (.dk (nd qs d)), .frz (.lst (ws.map wD)), .no, .no], fun _ => none⟩ ⟨ws, .no, .no, fun _ h => h, rfl, rfl⟩
  obtain ⟨xs, c2, c3, _, _, rfl⟩ := f2
  apply ev_runF
  refine ⟨⟨none, [.frz (.dk (nd qs d)), .frz (.lst (ws.map wD)), c2, c3], fun _ => none⟩, ?_⟩
  show g_are_pairs ⟨none, [.frz (.dk (nd qs d)), .frz (.lst (ws.map wD)), .no, .no], fun _ => none⟩ = _
  unfold g_are_pairs
  refine ev_seq (ev_sifF (x := false) (S1 := none) (ev_tNt (x := true) (ev_tEb (ev_cl (ev_kCons (r := fz (.lst (ws.map wD))) (ev_fVar rfl) ev_aNil) rfl hs))) rfl ev_nx) (ev_seq (ev_for (S1 := none) (ev_items (ds := ws.map wD) (ev_fVar rfl) (.inl rfl)) f1) ?_)
  exact ev_ret rfl
end Al.Cm


set_option Elab.async false
set_option linter.all false
set_option maxRecDepth 100000
/-! Plain facts: games_of. -/
namespace Al.Cm
open PySem PySem.Spec PyProof.Rows L2 Al
def pkey (p : Str × Str) : List Key := [.inr p.1, .inr p.2]
theorem pkey_inj {p q : Str × Str} (h : pkey p = pkey q) : p = q := by
  unfold pkey at h
  simp only [List.cons.injEq, Sum.inr.injEq, and_true] at h
  exact Prod.ext h.1 h.2
def pairsS : List Str → List (Str × Str)
  | [] => []
  | q :: r => r.map (q, ·) ++ pairsS r
theorem mem_pairsS : ∀ {qs : List Str} {p : Str × Str}, p ∈ pairsS qs → p.1 ∈ qs ∧ p.2 ∈ qs
  | q :: r, p, h => by
    rcases List.mem_append.mp h with h | h
    · obtain ⟨x, hx, rfl⟩ := List.mem_map.mp h
      exact ⟨List.mem_cons_self, List.mem_cons_of_mem _ hx⟩
    · have := mem_pairsS h
      exact ⟨List.mem_cons_of_mem _ this.1, List.mem_cons_of_mem _ this.2⟩
theorem pairsS_ne : ∀ {qs : List Str} {p : Str × Str}, qs.Nodup → p ∈ pairsS qs → p.1 ≠ p.2
  | q :: r, p, hn, h => by
    have hc := List.nodup_cons.mp hn
    rcases List.mem_append.mp h with h | h
    · obtain ⟨x, hx, rfl⟩ := List.mem_map.mp h
      exact fun (e : q = x) => hc.1 (e ▸ hx)
    · exact pairsS_ne hc.2 h
theorem pairsS_le : ∀ {qs : List Str} {p : Str × Str}, qs.Pairwise LE → p ∈ pairsS qs → LE p.1 p.2
  | q :: r, p, hn, h => by
    have hc := List.pairwise_cons.mp hn
    rcases List.mem_append.mp h with h | h
    · obtain ⟨x, hx, rfl⟩ := List.mem_map.mp h
      exact hc.1 x hx
    · exact pairsS_le hc.2 h
theorem pairsS_nodup : ∀ {qs : List Str}, qs.Nodup → (pairsS qs).Nodup
  | [], _ => List.nodup_nil
  | q :: r, hn => by
    have hc := List.nodup_cons.mp hn
    refine List.nodup_append.mpr ⟨?_, pairsS_nodup hc.2, fun a ha b hb e => ?_⟩
    · rw [List.Nodup, List.pairwise_map]
      exact List.Pairwise.imp (fun {a b} h e => h (Prod.mk.inj e).2) hc.2
    · subst e
      obtain ⟨x, _, rfl⟩ := List.mem_map.mp ha
      exact hc.1 (mem_pairsS hb).1
theorem pairsS_mem : ∀ {qs : List Str} {a b : Str}, qs.Pairwise LE → a ∈ qs → b ∈ qs → a ≠ b → LE a b → (a, b) ∈ pairsS qs
  | q :: r, a, b, hp, ha, hb, hne, hle => by
    have hc := List.pairwise_cons.mp hp
    rcases List.mem_cons.mp ha with rfl | ha'
    · rcases List.mem_cons.mp hb with rfl | hb'
      · exact absurd rfl hne
      · exact List.mem_append_left _ (List.mem_map.mpr ⟨b, hb', rfl⟩)
    · rcases List.mem_cons.mp hb with hbq | hb'
      · subst hbq
        exact absurd (LE_anti hle (hc.1 a ha')) hne
      · exact List.mem_append_right _ (pairsS_mem hc.2 ha' hb' hne hle)
theorem pairsS_len : ∀ (qs : List Str), (pairsS qs).length ≤ qs.length * qs.length
  | [] => Nat.le_refl _
  | q :: r => by
    have := pairsS_len r
    show (r.map (q, ·) ++ pairsS r).length ≤ (r.length + 1) * (r.length + 1)
    rw [List.length_append, List.length_map]
    have e : (r.length + 1) * (r.length + 1) = r.length * r.length + 2 * r.length + 1 := by rw [Nat.add_mul, Nat.mul_add]; omega
    omega
def nrmS (w : Str × Str) : Str × Str := if leD (.str w.1) (.str w.2) = true then w else (w.2, w.1)
def cw (ws : List (Str × Str)) (p : Str × Str) : Nat := ws.countP fun w => decide (nrmS w = p)
theorem nrmS_iff {w p : Str × Str} (h : LE p.1 p.2) : nrmS w = p ↔ w = p ∨ w = (p.2, p.1) := by
  unfold nrmS
  by_cases hw : leD (.str w.1) (.str w.2) = true
  · rw [if_pos hw]
    refine ⟨.inl, fun e => e.elim id fun e => ?_⟩
    subst e
    have : p.1 = p.2 := LE_anti h hw
    exact Prod.ext this.symm this
  · rw [if_neg hw]
    refine ⟨fun e => .inr (by rw [← e]), fun e => e.elim (fun e => ?_) fun e => by rw [e]⟩
    subst e
    exact absurd h hw
theorem cw_one {ns : List Str} {ws : List (Str × Str)} (h : Tour ns ws) {p : Str × Str} (h1 : p.1 ∈ ns) (h2 : p.2 ∈ ns) (hne : p.1 ≠ p.2) (hle : LE p.1 p.2) : cw ws p = 1 := by
  obtain ⟨a, b⟩ := p
  simp only at *
  have key : ∀ x : Str × Str, x ∈ ws → (∀ w ∈ ws, (nrmS w = (a, b) ↔ w = x)) → cw ws (a, b) = 1 := fun x hx hi => by
    unfold cw
    have : ws.countP (fun w => decide (nrmS w = (a, b))) = ws.count x := by
      unfold List.count
      refine List.countP_congr fun w hw => ?_
      simp [hi w hw]
    rw [this]
    rw [List.Nodup.count h.wnd, if_pos hx]
  rcases h.tot a b h1 h2 hne with hab | hba
  · refine key _ hab fun w hw => (nrmS_iff hle).trans ⟨fun e => e.elim id fun e => ?_, .inl⟩
    subst e
    exact absurd hw (h.asym _ _ hab)
  · refine key _ hba fun w hw => (nrmS_iff hle).trans ⟨fun e => e.elim (fun e => ?_) id, .inr⟩
    subst e
    exact absurd hw (h.asym _ _ hba)
end Al.Cm


set_option Elab.async false
set_option linter.all false
set_option maxRecDepth 100000
/-! Plain facts: games_of, evaluated. -/
namespace Al.Cm
open PySem PySem.Spec PyProof.Rows L2 Al
theorem cutD_drop {α : Type} (xs : List α) (n : Nat) : cutD xs (some (n : Int)) none = xs.drop n := by
  unfold cutD
  have h0 : HT.sIx xs.length 0 (some (n : Int)) = min n xs.length := by
    unfold HT.sIx
    simp
    omega
  have h1 : HT.sIx xs.length xs.length none = xs.length := rfl
  rw [h0, h1]
  by_cases h : n ≤ xs.length
  · rw [Nat.min_eq_left h]
    apply List.take_of_length_le
    simp
  · rw [Nat.min_eq_right (by omega)]
    simp
    omega
def tld (ps : List (Str × Str)) (f : Str × Str → Int) : D := .dt (ps.map fun p => (pkey p, .int (f p)))
theorem ev_stT {i : Nat} {a : PF} {f : FE} {S : Option Spr} {cs : List Cell} {B : Hp} {p : Str × Str} {ps : List (Str × Str)} (h1 : f ⟨S, cs, B⟩ = some (fz (.int 0), S)) (h2 : a ⟨S, cs, B⟩ = some (.tup [.str p.1, .str p.2], S)) (h3 : cs[i]? = some (.own (tld ps fun _ => 0))) (h4 : p ∉ ps) (h5 : ps.length < 100000) :
    sSt i puD a f ⟨S, cs, B⟩ = some (.nx, ⟨S, cs.set i (.own (tld (ps ++ [p]) fun _ => 0)), B⟩) := by
  unfold sSt
  rw [h1]; simp only [Option.bind_some]; rw [st_mk, h2]
  simp only [Option.bind_some, h3]
  have hl : (ps.map fun p => (pkey p, D.int 0)).length < 100000 := by simp; exact h5
  have hp : putD (ps.map fun p => (pkey p, D.int 0)) (pkey p) (.int 0) = (ps ++ [p]).map fun p => (pkey p, D.int 0) := by
    rw [putD_new]
    · simp
    · intro q hq e
      obtain ⟨x, hx, rfl⟩ := List.mem_map.mp hq
      exact h4 (pkey_inj e ▸ hx)
  show ((puD (.dt (ps.map fun p => (pkey p, D.int 0))) (.tup [.str p.1, .str p.2]) (.int 0)).map _) = _
  have : puD (.dt (ps.map fun p => (pkey p, D.int 0))) (.tup [.str p.1, .str p.2]) (.int 0) = some (tld (ps ++ [p]) fun _ => 0) := by
    have hk : toKeys [.str p.1, .str p.2] = some (pkey p) := rfl
    unfold puD
    simp only [hk, Option.bind_some]
    rw [if_pos hl, hp]
    rfl
  rw [this]
  rfl
abbrev gE (d1 d2 : D) (qs : List Str) (ps : List (Str × Str)) (f : Str × Str → Int) (c4 c5 c6 : Cell) : En := ⟨none, [.frz d1, .frz d2, .frz (.lst (qs.map .str)), .own (tld ps f), c4, c5, c6], fun _ => none⟩
theorem games_i {d1 d2 : D} {qs : List Str} {q : Str} {c4 c5 : Cell} {tail : List (Str × Str)} (hq : c5 = .frz (.str q)) : ∀ (xs : List Str) (done : List (Str × Str)) (c6 : Cell), (done ++ xs.map (q, ·) ++ tail).Nodup → done.length + xs.length < 100000 →
    ∃ c6', forF (.nm 6) (sSt 3 puD (pE (fTup (kCons (fVar 5) (kCons (fVar 6) aNil)))) (fC (.int 0))) (xs.map .str) (gE d1 d2 qs done (fun _ => 0) c4 c5 c6) = some (.nx, gE d1 d2 qs (done ++ xs.map (q, ·)) (fun _ => 0) c4 c5 c6')
  | [], done, c6, _, _ => ⟨c6, by simp [forF]⟩
  | x :: xs, done, c6, hn, hl => by
    subst hq
    have hnot : (q, x) ∉ done := fun hx => by
      have := (List.nodup_append.mp (List.nodup_append.mp hn).1).2.2 _ hx (q, x) (by simp)
      exact this rfl
    obtain ⟨c6', ih⟩ := games_i (d1 := d1) (d2 := d2) (qs := qs) (c4 := c4) (tail := tail) rfl xs (done ++ [(q, x)]) (.frz (.str x)) (by simpa using hn) (by simp at hl ⊢; omega)
    refine ⟨c6', ?_⟩
    have hb : sSt 3 puD (pE (fTup (kCons (fVar 5) (kCons (fVar 6) aNil)))) (fC (.int 0)) (gE d1 d2 qs done (fun _ => 0) c4 (.frz (.str q)) (.frz (.str x))) = some (.nx, gE d1 d2 qs (done ++ [(q, x)]) (fun _ => 0) c4 (.frz (.str q)) (.frz (.str x))) :=
      ev_stT (p := (q, x)) (ps := done) rfl rfl rfl hnot (by omega)
    rw [List.map_cons, forF]
    show ((some (gE d1 d2 qs done (fun _ => 0) c4 (.frz (.str q)) (.frz (.str x)))).bind _) = _
    rw [Option.bind_some, hb, Option.bind_some]
    rw [ih]
    simp
theorem games_o {d1 d2 : D} {qs : List Str} (hn : qs.Nodup) (hl : qs.length ≤ 60) : ∀ (rest pre : List Str) (done : List (Str × Str)) (c4 c5 c6 : Cell), qs = pre ++ rest → done ++ pairsS rest = pairsS qs →
    ∃ c4' c5' c6', forF (.tp [4, 5]) (sFor (fItems (fSl slLst (pVar 2) (oSo (fBin iAdd (pVar 4) (pE (fC (.int 1))))) oNo)) (.nm 6) (sSt 3 puD (pE (fTup (kCons (fVar 5) (kCons (fVar 6) aNil)))) (fC (.int 0)))) (enumD pre.length (rest.map .str)) (gE d1 d2 qs done (fun _ => 0) c4 c5 c6) = some (.nx, gE d1 d2 qs (pairsS qs) (fun _ => 0) c4' c5' c6')
  | [], pre, done, c4, c5, c6, h1, h2 => ⟨c4, c5, c6, by simp [pairsS] at h2; subst h2; simp [enumD, forF]⟩
  | q :: rest, pre, done, c4, c5, c6, h1, h2 => by
    have hnd := pairsS_nodup hn
    have hlen := pairsS_len qs
    have hll : (pairsS qs).length ≤ 3600 := Nat.le_trans hlen (Nat.le_trans (Nat.mul_le_mul hl hl) (by decide))
    have h2' : done ++ rest.map (q, ·) ++ pairsS rest = pairsS qs := by rw [← h2, List.append_assoc]; rfl
    obtain ⟨c6', hi⟩ := games_i (d1 := d1) (d2 := d2) (qs := qs) (q := q) (c4 := .frz (.int pre.length)) (tail := pairsS rest) rfl rest done c6 (h2' ▸ hnd) (by
      have := congrArg List.length h2'
      simp at this
      omega)
    obtain ⟨c4', c5', c6'', ih⟩ := games_o (d1 := d1) (d2 := d2) hn hl rest (pre ++ [q]) (done ++ rest.map (q, ·)) (.frz (.int pre.length)) (.frz (.str q)) c6' (by simp [h1]) h2'
    refine ⟨c4', c5', c6'', ?_⟩
    have hs : fSl slLst (pVar 2) (oSo (fBin iAdd (pVar 4) (pE (fC (.int 1))))) oNo (gE d1 d2 qs done (fun _ => 0) (.frz (.int pre.length)) (.frz (.str q)) c6) = some (nw (.lst (rest.map .str)), none) := by
      refine ev_sl (x := some ((pre.length : Int) + 1)) (y := none) (S1 := none) (S2 := none) (ev_pVarF rfl) (ev_oSo rfl) rfl ?_
      show some (nw (.lst (cutD (qs.map D.str) (some (((pre.length + 1 : Nat) : Int))) none))) = _
      have e : qs.map D.str = (pre ++ [q]).map D.str ++ rest.map D.str := by rw [h1]; simp
      rw [cutD_drop, e, List.drop_left' (by simp)]
    rw [List.map_cons, enumD, forF]
    show ((some (gE d1 d2 qs done (fun _ => 0) (.frz (.int pre.length)) (.frz (.str q)) c6)).bind _) = _
    rw [Option.bind_some, ev_for (S1 := none) (ev_items hs (.inl rfl)) hi, Option.bind_some]
    have : pre.length + 1 = (pre ++ [q]).length := by simp
    rw [this]
    exact ih
end Al.Cm


set_option Elab.async false
set_option linter.all false
set_option maxRecDepth 100000
/-! Plain facts: games_of, evaluated. -/
namespace Al.Cm
open PySem PySem.Spec PyProof.Rows L2 Al
theorem tld_get {ps : List (Str × Str)} {f : Str × Str → Int} {p : Str × Str} (h : p ∈ ps) : lookD (tld ps f) (.tup [.str p.1, .str p.2]) = some (some (.int (f p))) := by
  have hk : toKeys [.str p.1, .str p.2] = some (pkey p) := rfl
  unfold lookD tld
  simp only [hk, Option.map_some]
  rw [getK_map (v := fun p => D.int (f p)) (fun a _ b _ => pkey_inj) h]
theorem tld_put {ps : List (Str × Str)} {f : Str × Str → Int} {p : Str × Str} {v : Int} (h : p ∈ ps) (hl : ps.length < 100000) : puD (tld ps f) (.tup [.str p.1, .str p.2]) (.int v) = some (tld ps fun q => if q = p then v else f q) := by
  have hk : toKeys [.str p.1, .str p.2] = some (pkey p) := rfl
  unfold puD tld
  simp only [hk, Option.bind_some]
  have hl' : (ps.map fun p => (pkey p, D.int (f p))).length < 100000 := by simp; exact hl
  rw [if_pos hl', putD_map (v := fun p => D.int (f p)) (fun a _ b _ => pkey_inj) h]
  congr 2
  refine List.map_congr_left fun a ha => ?_
  by_cases e : a = p
  · simp [e]
  · simp [e]
theorem ev_agD {i : Nat} {a : PF} {f : FE} {S S1 S2 : Option Spr} {cs : List Cell} {B : Hp} {op : Int → Int → Int} {p : Str × Str} {ps : List (Str × Str)} {g : Str × Str → Int} {b : Int} (h1 : a ⟨S, cs, B⟩ = some (.tup [.str p.1, .str p.2], S1)) (h2 : f ⟨S1, cs, B⟩ = some (fz (.int b), S2)) (h3 : cs[i]? = some (.own (tld ps g))) (h4 : p ∈ ps) (h5 : ps.length < 100000) :
    sAgD i op a f ⟨S, cs, B⟩ = some (.nx, ⟨S2, cs.set i (.own (tld ps fun q => if q = p then op (g p) b else g q)), B⟩) := by
  unfold sAgD
  rw [h1]; simp only [Option.bind_some]; rw [st_mk, h2]
  simp only [Option.bind_some, h3]
  show (match lookD (tld ps g) (.tup [.str p.1, .str p.2]) with
    | some (some (.int a)) => _
    | _ => _) = _
  rw [tld_get h4]
  simp only
  rw [tld_put h4 h5]
  rfl
theorem nrmS_minmax (w : Str × Str) : bMinS [.str w.1, .str w.2] = some (fz (.str (nrmS w).1)) ∧ bMaxS [.str w.1, .str w.2] = some (fz (.str (nrmS w).2)) := by
  unfold nrmS
  by_cases h : leD (.str w.1) (.str w.2) = true
  · rw [if_pos h]
    exact ⟨(min_str h).1, (max_str h).1⟩
  · rw [if_neg h]
    have h' : LE w.2 w.1 := (LE_total w.1 w.2).resolve_left h
    exact ⟨(min_str h').2, (max_str h').2⟩
theorem games_w {d1 d2 : D} {qs : List Str} {ps : List (Str × Str)} (hl : ps.length < 100000) {c4 : Cell} : ∀ (xs : List (Str × Str)) (f : Str × Str → Int) (c5 c6 : Cell), (∀ w ∈ xs, nrmS w ∈ ps) →
    ∃ c5' c6', forF (.tp [5, 6]) (sAgD 3 (· + ·) (pE (fTup (kCons (fApp bMinS (aCons (pVar 5) (aCons (pVar 6) aNil))) (kCons (fApp bMaxS (aCons (pVar 5) (aCons (pVar 6) aNil))) aNil)))) (fC (.int 1))) (xs.map wD) (gE d1 d2 qs ps f c4 c5 c6) = some (.nx, gE d1 d2 qs ps (fun p => f p + (cw xs p : Nat)) c4 c5' c6')
  | [], f, c5, c6, _ => ⟨c5, c6, by simp [forF, cw]⟩
  | w :: xs, f, c5, c6, h => by
    obtain ⟨hm, hM⟩ := nrmS_minmax w
    obtain ⟨c5', c6', ih⟩ := games_w (d1 := d1) (d2 := d2) (qs := qs) (c4 := c4) hl xs (fun q => if q = nrmS w then f (nrmS w) + 1 else f q) (.frz (.str w.1)) (.frz (.str w.2)) fun x hx => h x (List.mem_cons_of_mem _ hx)
    have hb : sAgD 3 (· + ·) (pE (fTup (kCons (fApp bMinS (aCons (pVar 5) (aCons (pVar 6) aNil))) (kCons (fApp bMaxS (aCons (pVar 5) (aCons (pVar 6) aNil))) aNil)))) (fC (.int 1)) (gE d1 d2 qs ps f c4 (.frz (.str w.1)) (.frz (.str w.2))) = some (.nx, gE d1 d2 qs ps (fun q => if q = nrmS w then f (nrmS w) + 1 else f q) c4 (.frz (.str w.1)) (.frz (.str w.2))) := by
      have h5 : ∀ k : Fb, ∀ r, k [.str w.1, .str w.2] = some r → fApp k (aCons (pVar 5) (aCons (pVar 6) aNil)) (gE d1 d2 qs ps f c4 (.frz (.str w.1)) (.frz (.str w.2))) = some (r, none) := fun k r hk => ev_app (ev_aCons (ev_pVarF rfl) (ev_aCons (ev_pVarF rfl) ev_aNil)) hk
      exact ev_agD (p := nrmS w) (ps := ps) (ev_pE' (ev_tup (ev_kCons (h5 _ _ hm) (ev_kCons (h5 _ _ hM) ev_aNil)) (by simp))) rfl rfl (h w List.mem_cons_self) hl
    refine ⟨c5', c6', ?_⟩
    rw [List.map_cons, forF]
    show ((some (gE d1 d2 qs ps f c4 (.frz (.str w.1)) (.frz (.str w.2)))).bind _) = _
    rw [Option.bind_some, hb, Option.bind_some]
    show forF _ _ _ _ = _
    rw [ih]
    have e : (fun p => (if p = nrmS w then f (nrmS w) + 1 else f p) + ((cw xs p : Nat) : Int)) = fun p => f p + ((cw (w :: xs) p : Nat) : Int) := by
      funext p
      unfold cw
      rw [List.countP_cons]
      by_cases hp : p = nrmS w
      · subst hp
        simp
        omega
      · have : ¬ nrmS w = p := fun e => hp e.symm
        simp [hp, this]
    rw [e]
theorem games_of_ok {qs : List Str} {ws : List (Str × Str)} {d : D} (h : Tour qs ws) (hs : qs.Pairwise LE) (hl : qs.length ≤ 60) : Φ_games_of [.dk (nd qs d), .lst (ws.map wD)] = some (nw (tld (pairsS qs) fun _ => 1)) := by
  have hll : (pairsS qs).length ≤ 3600 := Nat.le_trans (pairsS_len qs) (Nat.le_trans (Nat.mul_le_mul hl hl) (by decide))
  have hin : ∀ w ∈ ws, nrmS w ∈ pairsS qs := fun w hw => by
    obtain ⟨a, b⟩ := h.ins w hw
    have hne := h.ne hw
    unfold nrmS
    by_cases hle : leD (.str w.1) (.str w.2) = true
    · rw [if_pos hle]; exact pairsS_mem hs a b hne hle
    · rw [if_neg hle]; exact pairsS_mem hs b a (Ne.symm hne) ((LE_total w.1 w.2).resolve_left hle)
  obtain ⟨c4', c5', c6', h1⟩ := games_o (d1 := .dk (nd qs d)) (d2 := .lst (ws.map wD)) h.nd hl qs [] [] .no .no .no rfl rfl
  obtain ⟨c5'', c6'', h2⟩ := games_w (d1 := .dk (nd qs d)) (d2 := .lst (ws.map wD)) (qs := qs) (ps := pairsS qs) (c4 := c4') (by omega) ws (fun _ => 0) c5' c6' hin
  have e : tld (pairsS qs) (fun p => 0 + ((cw ws p : Nat) : Int)) = tld (pairsS qs) fun _ => 1 := by
    unfold tld
    congr 1
    refine List.map_congr_left fun p hp => ?_
    have hm := mem_pairsS hp
    show (pkey p, D.int (0 + ((cw ws p : Nat) : Int))) = (pkey p, D.int 1)
    rw [cw_one h hm.1 hm.2 (pairsS_ne h.nd hp) (pairsS_le hs hp)]
    rfl
  apply ev_runF
  refine ⟨⟨none, [.frz (.dk (nd qs d)), .frz (.lst (ws.map wD)), .frz (.lst (qs.map .str)), .own (tld (pairsS qs) fun _ => 1), c4', c5'', c6''], fun _ => none⟩, ?_⟩
  show g_games_of ⟨none, [.frz (.dk (nd qs d)), .frz (.lst (ws.map wD)), .no, .no, .no, .no, .no], fun _ => none⟩ = _
  unfold g_games_of
  refine ev_seq (ev_set (ev_app (ev_aCons (ev_pVarF rfl) ev_aNil) (sortD_ev (List.Perm.refl qs) hs (by omega)))) ?_
  refine ev_seq (ev_set (r := nw (.dt [])) rfl) ?_
  refine ev_fzO rfl ?_
  refine ev_seq (e1 := gE (.dk (nd qs d)) (.lst (ws.map wD)) qs (pairsS qs) (fun _ => 0) c4' c5' c6') (ev_for (S1 := none) (ds := enumD 0 (qs.map .str)) rfl h1) ?_
  refine ev_seq (e1 := gE (.dk (nd qs d)) (.lst (ws.map wD)) qs (pairsS qs) (fun p => 0 + ((cw ws p : Nat) : Int)) c4' c5'' c6'') (ev_for (S1 := none) (ev_items (r := fz (.lst (ws.map wD))) (ev_fVar rfl) (.inl rfl)) h2) ?_
  rw [← e]
  exact ev_retVO rfl
end Al.Cm


set_option Elab.async false
set_option linter.all false
set_option maxRecDepth 100000
/-! Plain facts: Plays(..), evaluated. -/
namespace Al.Cm
open PySem PySem.Spec PyProof.Rows L2 Al
theorem ev_gseq {f : FS} {g : FT} {e e' : En} {r : List (Str × D)} (h1 : f e = some (.nx, e')) (h0 : e'.cs[0]? = e.cs[0]?) (h2 : g e' = some r) : gSeq f g e = some r := by
  unfold gSeq
  rw [h1]
  simp only [Option.bind_some]
  rw [if_pos h0]
  exact h2
theorem compK2_new {i : Nat} {g : FE} {e : En} {S : Option Spr} {v : D} : ∀ {xs acc : List Str}, (acc ++ xs).Nodup → i < e.cs.length → (∀ c, g ((e.put i c).st S) = some (nw v, S)) → compK2 (.nm i) (pVar i) g e (xs.map .str) (nd acc v) S = some (nd (acc ++ xs) v, S)
  | [], acc, _, _, _ => by simp [compK2]
  | x :: xs, acc, hn, hi, hg => by
    have hx : x ∉ acc := fun h => (List.nodup_append.mp hn).2.2 x h x (by simp) rfl
    have h1 : pVar i ((e.st S).put i (.frz (.str x))) = some (.str x, S) := by
      refine ev_pVarF (S := S) (cs := e.cs.set i (.frz (.str x))) (B := e.B) ?_
      rw [List.getElem?_set_self hi]
    have hk : hasK (nd acc v) (Sum.inr x : Key) = false := by
      unfold hasK nd
      rw [List.any_map, List.any_eq_false]
      intro y hy
      simp only [Function.comp]
      have : y ≠ x := fun e => hx (e ▸ hy)
      simpa using this
    rw [List.map_cons, compK2]
    show ((some ((e.st S).put i (.frz (.str x)))).bind _) = _
    rw [Option.bind_some, h1, Option.bind_some]
    have h2 : g (((e.st S).put i (.frz (.str x))).st S) = some (nw v, S) := hg (.frz (.str x))
    rw [h2]
    simp only [Option.bind_some]
    show ((some (Sum.inr x : Key)).bind _) = _
    rw [Option.bind_some, if_pos ⟨by first | exact trivial | rfl, hk⟩]
    have : nd acc v ++ [((Sum.inr x : Key), v)] = nd (acc ++ [x]) v := by unfold nd; simp
    show compK2 _ _ _ _ _ (nd acc v ++ [((Sum.inr x : Key), v)]) _ = _
    rw [this, compK2_new (by simpa using hn) hi hg]
    simp
theorem ev_set2dc {i j : Nat} {s : AF} {g : FE} {S : Option Spr} {cs : List Cell} {B : Hp} {v : D} {xs : List Str} (h1 : s ⟨S, cs, B⟩ = some (xs.map .str, S)) (hl : xs.length ≤ 100000) (hn : xs.Nodup) (hj : j < cs.length) (hg : ∀ c, g ⟨S, (cs.set j .no).set j c, B⟩ = some (nw v, S)) :
    sSet2 i (f2Dc s (.nm j) [j] (pVar j) g) ⟨S, cs, B⟩ = some (.nx, ⟨S, cs.set i (.own2 (nd xs v)), B⟩) := by
  have h2 : f2Dc s (.nm j) [j] (pVar j) g ⟨S, cs, B⟩ = some (nd xs v, S) := by
    unfold f2Dc
    rw [h1, Option.bind_some]
    have hc : (xs.map D.str).length ≤ 100000 ∧ ∀ k ∈ (Tg.nm j).slots, k ∈ [j] := ⟨by simpa using hl, fun k hk => hk⟩
    show (if (xs.map D.str).length ≤ 100000 ∧ ∀ k ∈ (Tg.nm j).slots, k ∈ [j] then _ else none) = _
    rw [if_pos hc]
    show compK2 (.nm j) (pVar j) g ⟨S, cs.set j .no, B⟩ (xs.map .str) (nd [] v) S = _
    rw [compK2_new (by simpa using hn) (by simpa using hj) hg]
    rfl
  unfold sSet2
  rw [h2]
  rfl
abbrev yE (x : Addr) (d1 d2 : D) (c3 c4 c5 c6 c7 : Cell) : En := ⟨none, [.raw (V.ref x), .frz d1, .frz d2, c3, c4, c5, c6, c7], fun _ => none⟩
theorem plays_chk {x : Addr} {d1 d2 : D} {c3 c4 c7 : Cell} {o : D → D → Option Rs} {k : Int} {ps : List (Str × Str)} (ho : o (.int 1) (.int k) = some (fz (.bl false))) : ∀ (xs : List (Str × Str)) (c6 : Cell), (∀ p ∈ xs, p ∈ ps) →
    ∃ c6', forF (.nm 6) (sIf (tEb (fBin o (pE (fDget (pVar 5) (pVar 6))) (pE (fC (.int k))))) sNo sNx) (xs.map fun p => .tup [.str p.1, .str p.2]) (yE x d1 d2 c3 c4 (.frz (tld ps fun _ => 1)) c6 c7) = some (.nx, yE x d1 d2 c3 c4 (.frz (tld ps fun _ => 1)) c6' c7)
  | [], c6, _ => ⟨c6, rfl⟩
  | p :: xs, c6, h => by
    obtain ⟨c6', ih⟩ := plays_chk (x := x) (d1 := d1) (d2 := d2) (c3 := c3) (c4 := c4) (c7 := c7) ho xs (.frz (.tup [.str p.1, .str p.2])) fun q hq => h q (List.mem_cons_of_mem _ hq)
    refine ⟨c6', ?_⟩
    have hg : fDget (pVar 5) (pVar 6) (yE x d1 d2 c3 c4 (.frz (tld ps fun _ => 1)) (.frz (.tup [.str p.1, .str p.2])) c7) = some (fz (.int 1), none) := by
      unfold fDget
      rw [ev_pVarF (d := tld ps fun _ => 1) rfl]
      simp only [Option.bind_some]
      rw [st_mk, ev_pVarF (d := .tup [.str p.1, .str p.2]) rfl]
      simp only [Option.bind_some]
      rw [tld_get (h p List.mem_cons_self)]
    have hb : sIf (tEb (fBin o (pE (fDget (pVar 5) (pVar 6))) (pE (fC (.int k))))) sNo sNx (yE x d1 d2 c3 c4 (.frz (tld ps fun _ => 1)) (.frz (.tup [.str p.1, .str p.2])) c7) = some (.nx, yE x d1 d2 c3 c4 (.frz (tld ps fun _ => 1)) (.frz (.tup [.str p.1, .str p.2])) c7) :=
      ev_sifF (ev_tEb (ev_bin (ev_pE' hg) (ev_pE' (ev_fC)) ho)) rfl rfl
    rw [List.map_cons, forF]
    show ((some (yE x d1 d2 c3 c4 (.frz (tld ps fun _ => 1)) (.frz (.tup [.str p.1, .str p.2])) c7)).bind _) = _
    rw [Option.bind_some, hb, Option.bind_some]
    exact ih
def dset (xs : List Str) : D := .dk (xs.map fun x => ((Sum.inr x : Key), .bl true))
def rowsD (qs : List Str) (f : Str → List Str) : List (Key × D) := qs.map fun q => ((Sum.inr q : Key), dset (f q))
theorem inr_inj {a b : Str} (h : (Sum.inr a : Key) = Sum.inr b) : a = b := Sum.inr.inj h
theorem ev_st2 {i a b : Nat} {S : Option Spr} {cs : List Cell} {B : Hp} {p q : Str} {qs : List Str} {f : Str → List Str} (h1 : cs[a]? = some (.frz (.str p))) (h2 : cs[b]? = some (.frz (.str q))) (h3 : cs[i]? = some (.own2 (rowsD qs f))) (hn : qs.Nodup) (hp : p ∈ qs) (hq : q ∉ f p) (hl : (f p).length < 100000) :
    sSt2 i puD (pVar a) (pVar b) (fC (.bl true)) ⟨S, cs, B⟩ = some (.nx, ⟨S, cs.set i (.own2 (rowsD qs fun x => if x = p then f p ++ [q] else f x)), B⟩) := by
  unfold sSt2
  rw [ev_fC]; simp only [Option.bind_some]
  rw [st_mk, ev_pVarF h1]; simp only [Option.bind_some]
  rw [st_mk, ev_pVarF h2]; simp only [Option.bind_some, h3]
  show ((some (Sum.inr p : Key)).bind _) = _
  rw [Option.bind_some]
  have hg : getK (rowsD qs f) (Sum.inr p : Key) = some (dset (f p)) := getK_map (key := fun q : Str => (Sum.inr q : Key)) (v := fun q => dset (f q)) (fun a _ b _ => inr_inj) hp
  rw [hg, Option.bind_some]
  have hpu : puD (dset (f p)) (.str q) (.bl true) = some (dset (f p ++ [q])) := by
    unfold puD dset
    show ((some (Sum.inr q : Key)).bind _) = _
    rw [Option.bind_some, if_pos (by simpa using hl), putD_new]
    · simp
    · intro kv hkv e
      obtain ⟨y, hy, rfl⟩ := List.mem_map.mp hkv
      exact hq (inr_inj e ▸ hy)
  show ((puD (dset (f p)) (.str q) (.bl true)).map _) = _
  rw [hpu]
  have hs : setK (rowsD qs f) (Sum.inr p : Key) (dset (f p ++ [q])) = rowsD qs fun x => if x = p then f p ++ [q] else f x := by
    unfold rowsD
    rw [setK_map (key := fun q : Str => (Sum.inr q : Key)) (v := fun q => dset (f q)) hn (fun a _ b _ => inr_inj) hp]
    refine List.map_congr_left fun a ha => ?_
    by_cases e : a = p
    · simp [e]
    · simp [e]
  show some (Fl.nx, (En.mk S cs B).put i (.own2 (setK (rowsD qs f) (Sum.inr p : Key) (dset (f p ++ [q]))))) = _
  rw [hs]
  rfl
def beat (ws : List (Str × Str)) (q : Str) : List Str := (ws.filter fun w => decide (w.1 = q)).map (·.2)
theorem beat_app {xs : List (Str × Str)} {w : Str × Str} : (fun x => if x = w.1 then beat xs w.1 ++ [w.2] else beat xs x) = beat (xs ++ [w]) := by
  funext x
  unfold beat
  rw [List.filter_append, List.map_append]
  by_cases h : x = w.1
  · subst h; simp
  · have : ¬ w.1 = x := fun e => h e.symm
    simp [h, this]
theorem mem_beat {ws : List (Str × Str)} {p q : Str} : q ∈ beat ws p ↔ (p, q) ∈ ws := by
  unfold beat
  rw [List.mem_map]
  constructor
  · rintro ⟨w, hw, rfl⟩
    obtain ⟨a, b⟩ := List.mem_filter.mp hw
    have : w.1 = p := by simpa using b
    subst this
    exact a
  · intro h
    exact ⟨(p, q), List.mem_filter.mpr ⟨h, by simp⟩, rfl⟩
theorem plays_w {x : Addr} {d1 d2 : D} {qs : List Str} {c5 c6 : Cell} (hn : qs.Nodup) : ∀ (xs done : List (Str × Str)) (c4 c7 : Cell), (done ++ xs).Nodup → (∀ w ∈ xs, w.1 ∈ qs) → done.length + xs.length < 100000 →
    ∃ c4' c7', forF (.tp [4, 7]) (sSt2 3 puD (pVar 4) (pVar 7) (fC (.bl true))) (xs.map wD) (yE x d1 d2 (.own2 (rowsD qs (beat done))) c4 c5 c6 c7) = some (.nx, yE x d1 d2 (.own2 (rowsD qs (beat (done ++ xs)))) c4' c5 c6 c7')
  | [], done, c4, c7, _, _, _ => ⟨c4, c7, by simp [forF]⟩
  | w :: xs, done, c4, c7, hd, hi, hl => by
    obtain ⟨c4', c7', ih⟩ := plays_w (x := x) (d1 := d1) (d2 := d2) (c5 := c5) (c6 := c6) hn xs (done ++ [w]) (.frz (.str w.1)) (.frz (.str w.2)) (by simpa using hd) (fun y hy => hi y (List.mem_cons_of_mem _ hy)) (by simp at hl ⊢; omega)
    refine ⟨c4', c7', ?_⟩
    have hnot : w.2 ∉ beat done w.1 := fun h => (List.nodup_append.mp hd).2.2 _ (mem_beat.mp h) w (by simp) rfl
    have hlen : (beat done w.1).length < 100000 := by
      have : (beat done w.1).length ≤ done.length := by unfold beat; rw [List.length_map]; exact List.length_filter_le _ _
      simp at hl
      omega
    have hb : sSt2 3 puD (pVar 4) (pVar 7) (fC (.bl true)) (yE x d1 d2 (.own2 (rowsD qs (beat done))) (.frz (.str w.1)) c5 c6 (.frz (.str w.2))) = some (.nx, yE x d1 d2 (.own2 (rowsD qs (beat (done ++ [w])))) (.frz (.str w.1)) c5 c6 (.frz (.str w.2))) := by
      rw [ev_st2 (p := w.1) (q := w.2) (qs := qs) (f := beat done) rfl rfl rfl hn (hi w List.mem_cons_self) hnot hlen, beat_app]
      rfl
    rw [List.map_cons, forF]
    show ((some (yE x d1 d2 (.own2 (rowsD qs (beat done))) (.frz (.str w.1)) c5 c6 (.frz (.str w.2)))).bind _) = _
    rw [Option.bind_some, hb, Option.bind_some]
    have e : done ++ w :: xs = (done ++ [w]) ++ xs := by simp
    rw [e]
    exact ih
theorem rowsD_nil (qs : List Str) : nd qs (.dk []) = rowsD qs (beat []) := rfl
theorem ev_lendE {i : Nat} {f : FE} {e : En} {r : Rs} {S1 : Option Spr} (h : f (e.still i) = some (r, S1)) (hf : flatR r = true) : fLend i f e = some (r, S1) := by
  unfold fLend
  rw [h, Option.bind_some, if_pos hf]
theorem plays_go {ps qs : List Str} {ws : List (Str × Str)} (h : Tour ps ws) (hl : 1 ≤ ps.length ∧ ps.length ≤ 31) (hp : qs.Perm ps) (hs : qs.Pairwise LE) (hw : ws.length ≤ 5000) (x : Addr) :
    g_Plays ⟨none, startI x 8 [.lst (ps.map .str), .lst (ws.map wD)], fun _ => none⟩ = some [(("rows" : Str), D.dk (rowsD qs (beat ws)))] := by
  have hq : Tour qs ws := h.perm hp (List.Perm.refl _)
  have hql : qs.length ≤ 31 := by rw [hp.length_eq]; exact hl.2
  obtain ⟨c6, h1⟩ := plays_chk (x := x) (d1 := .lst (ps.map .str)) (d2 := .lst (ws.map wD)) (c3 := .own2 (nd qs (.dk []))) (c4 := .no) (c7 := .no) (o := iGt) (k := 1) (ps := pairsS qs) rfl (pairsS qs) .no (fun _ h => h)
  obtain ⟨c6', h2⟩ := plays_chk (x := x) (d1 := .lst (ps.map .str)) (d2 := .lst (ws.map wD)) (c3 := .own2 (nd qs (.dk []))) (c4 := .no) (c7 := .no) (o := gEq) (k := 0) (ps := pairsS qs) rfl (pairsS qs) c6 (fun _ h => h)
  obtain ⟨c4', c7', h3⟩ := plays_w (x := x) (d1 := .lst (ps.map .str)) (d2 := .lst (ws.map wD)) (qs := qs) (c5 := .frz (tld (pairsS qs) fun _ => 1)) (c6 := c6') hq.nd ws [] .no .no (by simpa using hq.wnd) (fun w hw => (hq.ins w hw).1) (by simp; omega)
  have keys : dKeys (vVar 5) = fun e => (vVar 5 e).bind keysD := rfl
  have hk : ∀ c6 c7, dKeys (vVar 5) (yE x (.lst (ps.map .str)) (.lst (ws.map wD)) (.own2 (nd qs (.dk []))) .no (.frz (tld (pairsS qs) fun _ => 1)) c6 c7) = some ((pairsS qs).map fun p => .tup [.str p.1, .str p.2]) := fun c6 c7 => by
    show keysD (tld (pairsS qs) fun _ => 1) = _
    unfold tld keysD
    simp only [List.map_map]
    rfl
  have hgp : fCl Φ_games_of 2 (kCons (fVar 3) (kCons (fVar 2) aNil)) (yE x (.lst (ps.map .str)) (.lst (ws.map wD)) (.frz (.dk (nd qs (.dk [])))) .no .no .no .no) = some (nw (tld (pairsS qs) fun _ => 1), none) :=
    ev_cl (ev_kCons (ev_fVar rfl) (ev_kCons (ev_fVar rfl) ev_aNil)) rfl (games_of_ok hq hs (by omega))
  have hflat : flatR (nw (tld (pairsS qs) fun _ => 1)) = true := by
    show ((pairsS qs).map fun p => (pkey p, D.int 1)).all (fun p => flatS p.2) = true
    rw [List.all_eq_true]
    intro y hy
    obtain ⟨p, _, rfl⟩ := List.mem_map.mp hy
    rfl
  show g_Plays (yE x (.lst (ps.map .str)) (.lst (ws.map wD)) .no .no .no .no .no) = _
  unfold g_Plays
  refine ev_gseq (e' := yE x (.lst (ps.map .str)) (.lst (ws.map wD)) .no .no .no .no .no) (ev_sifF (ev_tNt (ev_tEb (ev_cl (ev_kCons (ev_fVar rfl) ev_aNil) rfl (are_players_ok h.ok h.nd hl)))) rfl rfl) rfl ?_
  refine ev_gseq (e' := yE x (.lst (ps.map .str)) (.lst (ws.map wD)) (.own2 (nd qs (.dk []))) .no .no .no .no) (ev_set2dc (xs := qs) (ev_items (r := nw (.lst (qs.map .str))) (ev_app (ev_aCons (ev_pVarF rfl) ev_aNil) (sort_ev ps hp hs)) (.inl rfl)) (by omega) hq.nd (by simp) fun c => rfl) rfl ?_
  refine ev_gseq (e' := yE x (.lst (ps.map .str)) (.lst (ws.map wD)) (.own2 (nd qs (.dk []))) .no .no .no .no) ?_ rfl ?_
  · have : fCl Φ_are_pairs 2 (kCons (fVar 3) (kCons (fVar 2) aNil)) (yE x (.lst (ps.map .str)) (.lst (ws.map wD)) (.frz (.dk (nd qs (.dk [])))) .no .no .no .no) = some (fz (.bl true), none) :=
      ev_cl (ev_kCons (ev_fVar rfl) (ev_kCons (ev_fVar rfl) ev_aNil)) rfl (are_pairs_ok fun w hw => ⟨(hq.ins w hw).1, (hq.ins w hw).2, hq.ne hw⟩)
    exact ev_sifF (x := false) (S1 := none) (show tNt (tEb _) (yE x (.lst (ps.map .str)) (.lst (ws.map wD)) (.frz (.dk (nd qs (.dk [])))) .no .no .no .no) = _ from ev_tNt (ev_tEb this)) rfl rfl
  refine ev_gseq (e' := yE x (.lst (ps.map .str)) (.lst (ws.map wD)) (.own2 (nd qs (.dk []))) .no (.own (tld (pairsS qs) fun _ => 1)) .no .no) (ev_set (ev_lendE hgp hflat)) rfl ?_
  refine ev_gseq (e' := yE x (.lst (ps.map .str)) (.lst (ws.map wD)) (.own2 (nd qs (.dk []))) .no (.frz (tld (pairsS qs) fun _ => 1)) c6 .no) (ev_fzO (d := tld (pairsS qs) fun _ => 1) rfl ?_) rfl ?_
  · show sForD _ _ _ (yE x (.lst (ps.map .str)) (.lst (ws.map wD)) (.own2 (nd qs (.dk []))) .no (.frz (tld (pairsS qs) fun _ => 1)) .no .no) = _
    unfold sForD
    rw [hk, Option.bind_some]
    exact h1
  refine ev_gseq (e' := yE x (.lst (ps.map .str)) (.lst (ws.map wD)) (.own2 (nd qs (.dk []))) .no (.frz (tld (pairsS qs) fun _ => 1)) c6' .no) ?_ rfl ?_
  · unfold sForD
    rw [hk, Option.bind_some]
    exact h2
  refine ev_gseq (e' := yE x (.lst (ps.map .str)) (.lst (ws.map wD)) (.own2 (rowsD qs (beat ws))) c4' (.frz (tld (pairsS qs) fun _ => 1)) c6' c7') (ev_for (ev_items (r := fz (.lst (ws.map wD))) (ev_fVar rfl) (.inl rfl)) h3) rfl ?_
  rfl
theorem plays_ok {ps qs : List Str} {ws : List (Str × Str)} (h : Tour ps ws) (hl : 1 ≤ ps.length ∧ ps.length ≤ 31) (hp : qs.Perm ps) (hs : qs.Pairwise LE) (hw : ws.length ≤ 5000) :
    Φ_Plays [.lst (ps.map .str), .lst (ws.map wD)] = some [(("rows" : Str), D.dk (rowsD qs (beat ws)))] := by
  unfold Φ_Plays runI
  rw [if_pos (fun x => (plays_go h hl hp hs hw x).trans (plays_go h hl hp hs hw 0).symm)]
  exact plays_go h hl hp hs hw 0
end Al.Cm


set_option Elab.async false
set_option linter.all false
set_option maxRecDepth 100000
/-! Plain facts: the spring made; rows; scores. -/
namespace Al.Cm
open PySem PySem.Spec PyProof.Rows L2 Al
theorem cutD_take {α : Type} (xs : List α) (n : Nat) : cutD xs none (some (n : Int)) = xs.take n := by
  unfold cutD
  have h0 : HT.sIx xs.length xs.length (some (n : Int)) = min n xs.length := by
    unfold HT.sIx
    simp
    omega
  have h1 : HT.sIx xs.length 0 none = 0 := rfl
  rw [h0, h1]
  simp
def mixf : Nat → List Int → Int → Int
  | _, [], m => m
  | n, x :: xs, m => mixf (n + 1) xs ((m * 69069 + x + 5 * n + 1) % 2147483629)
abbrev spE (a : Addr) (B : Hp) (t cell m : Int) (c4 c5 : Cell) : En := ⟨none, [.raw (V.ref a), .frz (.int t), .frz (.int cell), .frz (.int m), c4, c5], B⟩
theorem isRaw_ok {a : Addr} {B : Hp} {S : Option Spr} {cs : List Cell} {i : Nat} (h : cs[i]? = some (.raw (.ref a))) : isRaw a B ⟨S, cs, B⟩ i = true := by unfold isRaw; rw [if_pos ⟨h, rfl⟩]
theorem spring_loop {a : Addr} {B : Hp} {t cell : Int} : ∀ (xs : List Int) (n : Nat) (m : Int) (c4 c5 : Cell),
    ∃ c4' c5', forF (.tp [4, 5]) (sSet 3 (fBin iMod (pE (fApp bInt (aCons (pE (fBin iAdd (pE (fBin iAdd (pE (fBin iAdd (pE (fBin iMul (pVar 3) (pE (fC (.int 69069))))) (pVar 5))) (pE (fBin iMul (pE (fC (.int 5))) (pVar 4))))) (pE (fC (.int 1))))) aNil))) (pE (fC (.int 2147483629))))) (enumD n (xs.map .int)) (spE a B t cell m c4 c5) = some (.nx, spE a B t cell (mixf n xs m) c4' c5')
  | [], n, m, c4, c5 => ⟨c4, c5, rfl⟩
  | x :: xs, n, m, c4, c5 => by
    obtain ⟨c4', c5', ih⟩ := spring_loop (a := a) (B := B) (t := t) (cell := cell) xs (n + 1) ((m * 69069 + x + 5 * n + 1) % 2147483629) (.frz (.int n)) (.frz (.int x))
    refine ⟨c4', c5', ?_⟩
    have hb : sSet 3 (fBin iMod (pE (fApp bInt (aCons (pE (fBin iAdd (pE (fBin iAdd (pE (fBin iAdd (pE (fBin iMul (pVar 3) (pE (fC (.int 69069))))) (pVar 5))) (pE (fBin iMul (pE (fC (.int 5))) (pVar 4))))) (pE (fC (.int 1))))) aNil))) (pE (fC (.int 2147483629)))) (spE a B t cell m (.frz (.int n)) (.frz (.int x))) = some (.nx, spE a B t cell ((m * 69069 + x + 5 * n + 1) % 2147483629) (.frz (.int n)) (.frz (.int x))) := by
      have h1 : fBin iMul (pVar 3) (pE (fC (.int 69069))) (spE a B t cell m (.frz (.int n)) (.frz (.int x))) = some (fz (.int (m * 69069)), none) := ev_bin (ev_pVarF rfl) (ev_pE' ev_fC) (ev_iMul (.inr (by decide)))
      have h2 : fBin iMul (pE (fC (.int 5))) (pVar 4) (spE a B t cell m (.frz (.int n)) (.frz (.int x))) = some (fz (.int (5 * n)), none) := ev_bin (ev_pE' ev_fC) (ev_pVarF rfl) (ev_iMul (.inl (by decide)))
      have h3 := ev_bin (o := iAdd) (b := pVar 5) (ev_pE' h1) (ev_pVarF rfl) ev_iAdd
      have h4 := ev_bin (o := iAdd) (ev_pE' h3) (ev_pE' h2) ev_iAdd
      have h5 := ev_bin (o := iAdd) (ev_pE' h4) (ev_pE' (ev_fC (d := .int 1))) ev_iAdd
      have h6 := ev_app (k := bInt) (ev_aCons (ev_pE' h5) ev_aNil) ev_bInt
      exact ev_set (ev_bin (o := iMod) (ev_pE' h6) (ev_pE' (ev_fC (d := .int 2147483629))) (ev_iMod (by decide)))
    rw [List.map_cons, enumD, forF]
    show ((some (spE a B t cell m (.frz (.int n)) (.frz (.int x)))).bind _) = _
    rw [Option.bind_some, hb, Option.bind_some]
    exact ih
theorem spring_ok {ns : List Int} {t : Int} (ht : 0 ≤ t) (hn : ns.length ≤ 63) : ∃ s : Spr, Φ__law_spring ns [.int t] = some (nw (.lst [.int s.a, .int s.b, .int s.c])) ∧ SprOk 0 s := by
  obtain ⟨cell, hc⟩ : ∃ cell : Int, ∀ a B c2 c3 c4 c5, fIf (tEb (fBin iLt (pVar 1) (pE (fRawLen a B ns 0)))) (fRawIx a B ns 0 (fVar 1)) (fBin iAdd (pE (fBin iMul (pE (fC (.int 7))) (pVar 1))) (pE (fRawLen a B ns 0))) ⟨none, [.raw (V.ref a), .frz (.int t), c2, c3, c4, c5], B⟩ = some (fz (.int cell), none) := by
    have hlen : ∀ a B c2 c3 c4 c5, fRawLen a B ns 0 ⟨none, [.raw (V.ref a), .frz (.int t), c2, c3, c4, c5], B⟩ = some (fz (.int ns.length), none) := fun a B c2 c3 c4 c5 => by
      unfold fRawLen
      rw [if_pos (isRaw_ok rfl)]
    by_cases h : t < ns.length
    · obtain ⟨x, hx, _⟩ := atI_nat ht h
      refine ⟨x, fun a B c2 c3 c4 c5 => ev_ifT (ev_tEb (ev_bin (ev_pVarF rfl) (ev_pE' (hlen ..)) ev_iLt)) (by simpa using h) ?_⟩
      unfold fRawIx
      rw [if_pos (isRaw_ok rfl), ev_fVar (d := .int t) rfl, Option.bind_some]
      show ((atI ns t).map _) = _
      rw [hx]; rfl
    · exact ⟨7 * t + ns.length, fun a B c2 c3 c4 c5 => ev_ifF (ev_tEb (ev_bin (ev_pVarF rfl) (ev_pE' (hlen ..)) ev_iLt)) (by simpa using h) (ev_bin (ev_pE' (ev_bin (ev_pE' ev_fC) (ev_pVarF rfl) (ev_iMul (.inl (by decide))))) (ev_pE' (hlen ..)) ev_iAdd)⟩
  obtain ⟨top, htop⟩ : ∃ top : Int, ∀ a B m c4 c5, fIf (tEb (fBin iGe (pVar 2) (pE (fBin iPow (pE (fC (.int 10))) (pE (fC (.int 18))))))) (fVar 2) (fC (.int 0)) (spE a B t cell m c4 c5) = some (fz (.int top), none) := by
    have hp : ∀ a B m c4 c5, fBin iGe (pVar 2) (pE (fBin iPow (pE (fC (.int 10))) (pE (fC (.int 18))))) (spE a B t cell m c4 c5) = some (fz (.bl (decide (cell ≥ 10 ^ (18 : Int).toNat))), none) := fun a B m c4 c5 => ev_bin (ev_pVarF rfl) (ev_pE' (ev_bin (ev_pE' ev_fC) (ev_pE' ev_fC) (ev_iPow (by decide)))) ev_iGe
    by_cases h : cell ≥ 10 ^ (18 : Int).toNat
    · exact ⟨cell, fun a B m c4 c5 => ev_ifT (ev_tEb (hp ..)) (decide_eq_true h) (ev_fVar rfl)⟩
    · exact ⟨0, fun a B m c4 c5 => ev_ifF (ev_tEb (hp ..)) (decide_eq_false h) ev_fC⟩
  refine ⟨⟨top, (mixf 0 ns (1009 + 97 * t) + cell * 31) % 2147483647, 0⟩, ?_, ⟨⟨Int.emod_nonneg _ (by decide), Int.emod_lt_of_pos _ (by decide)⟩, Int.le_refl 0, Int.le_refl 0⟩⟩
  have key : ∀ a B, ∃ e', g__law_spring a B ns ⟨none, startI a 6 [.int t], B⟩ = some (.rt (nw (.lst [.int top, .int ((mixf 0 ns (1009 + 97 * t) + cell * 31) % 2147483647), .int 0])), e') := fun a B => by
    obtain ⟨c4', c5', hl⟩ := spring_loop (a := a) (B := B) (t := t) (cell := cell) ns 0 (1009 + 97 * t) .no .no
    refine ⟨spE a B t cell (mixf 0 ns (1009 + 97 * t)) c4' c5', ?_⟩
    show g__law_spring a B ns ⟨none, [.raw (V.ref a), .frz (.int t), .no, .no, .no, .no], B⟩ = _
    unfold g__law_spring
    have h1 : sPar [2, 3] (kCons (fIf (tEb (fBin iLt (pVar 1) (pE (fRawLen a B ns 0)))) (fRawIx a B ns 0 (fVar 1)) (fBin iAdd (pE (fBin iMul (pE (fC (.int 7))) (pVar 1))) (pE (fRawLen a B ns 0)))) (kCons (fBin iAdd (pE (fC (.int 1009))) (pE (fBin iMul (pE (fC (.int 97))) (pVar 1)))) aNil)) ⟨none, [.raw (V.ref a), .frz (.int t), .no, .no, .no, .no], B⟩ = some (.nx, spE a B t cell (1009 + 97 * t) .no .no) := by
      have h2 : kCons (fIf (tEb (fBin iLt (pVar 1) (pE (fRawLen a B ns 0)))) (fRawIx a B ns 0 (fVar 1)) (fBin iAdd (pE (fBin iMul (pE (fC (.int 7))) (pVar 1))) (pE (fRawLen a B ns 0)))) (kCons (fBin iAdd (pE (fC (.int 1009))) (pE (fBin iMul (pE (fC (.int 97))) (pVar 1)))) aNil) ⟨none, [.raw (V.ref a), .frz (.int t), .no, .no, .no, .no], B⟩ = some ([.int cell, .int (1009 + 97 * t)], none) :=
        ev_kCons (hc a B .no .no .no .no) (ev_kCons (ev_bin (ev_pE' ev_fC) (ev_pE' (ev_bin (ev_pE' ev_fC) (ev_pVarF rfl) (ev_iMul (.inl (by decide))))) ev_iAdd) ev_aNil)
      unfold sPar
      rw [h2]
      rfl
    refine ev_seq h1 (ev_seq (ev_for (S1 := none) (ds := enumD 0 (ns.map .int)) ?_ hl) ?_)
    · have : fRawTake a B ns 0 63 (spE a B t cell (1009 + 97 * t) .no .no) = some (nw (.lst (ns.map .int)), none) := by
        unfold fRawTake
        rw [if_pos (isRaw_ok rfl)]
        have e : cutD (ns.map D.int) none (some 63) = ns.map D.int := by
          rw [show (63 : Int) = ((63 : Nat) : Int) from rfl, cutD_take]
          exact List.take_of_length_le (by simpa using hn)
        rw [e]
      unfold iEn
      rw [ev_kCons this ev_aNil]
      rfl
    · have h3 : fBin iMod (pE (fApp bInt (aCons (pE (fBin iAdd (pVar 3) (pE (fBin iMul (pVar 2) (pE (fC (.int 31))))))) aNil))) (pE (fC (.int 2147483647))) (spE a B t cell (mixf 0 ns (1009 + 97 * t)) c4' c5') = some (fz (.int ((mixf 0 ns (1009 + 97 * t) + cell * 31) % 2147483647)), none) :=
        ev_bin (ev_pE' (ev_app (ev_aCons (ev_pE' (ev_bin (ev_pVarF rfl) (ev_pE' (ev_bin (ev_pVarF rfl) (ev_pE' ev_fC) (ev_iMul (.inr (by decide))))) ev_iAdd)) ev_aNil) ev_bInt)) (ev_pE' ev_fC) (ev_iMod (by decide))
      exact ev_ret (ev_lst (ev_kCons (htop ..) (ev_kCons h3 (ev_kCons ev_fC ev_aNil))) (by simp))
  have hB : ∀ a B, runR.runB 6 (g__law_spring a B ns) a B [.int t] = some (nw (.lst [.int top, .int ((mixf 0 ns (1009 + 97 * t) + cell * 31) % 2147483647), .int 0])) := fun a B => by
    obtain ⟨e', h⟩ := key a B
    unfold runR.runB
    rw [h]
    rfl
  unfold Φ__law_spring runR
  rw [if_pos (fun a B => (hB a B).trans (hB 0 _).symm)]
  exact hB 0 _
/-! rows of the law -/
def rowsL (qs : List Str) (f : Str → List Str) : List (Key × D) := qs.map fun q => ((Sum.inr q : Key), .lst ((f q).map .str))
theorem ev_mu2 {i a b : Nat} {S : Option Spr} {cs : List Cell} {B : Hp} {p q : Str} {qs : List Str} {f : Str → List Str} (h1 : cs[a]? = some (.frz (.str p))) (h2 : cs[b]? = some (.frz (.str q))) (h3 : cs[i]? = some (.own2 (rowsL qs f))) (hn : qs.Nodup) (hp : p ∈ qs) (hl : (f p).length < 100000) :
    sMu2 i muApp (pVar a) (kCons (fVar b) aNil) ⟨S, cs, B⟩ = some (.nx, ⟨S, cs.set i (.own2 (rowsL qs fun x => if x = p then f p ++ [q] else f x)), B⟩) := by
  unfold sMu2
  rw [ev_pVarF h1]; simp only [Option.bind_some]
  rw [st_mk, ev_kCons (ev_fVar h2) ev_aNil]; simp only [Option.bind_some, h3]
  show ((some (Sum.inr p : Key)).bind _) = _
  rw [Option.bind_some]
  have hg : getK (rowsL qs f) (Sum.inr p : Key) = some (.lst ((f p).map .str)) := getK_map (key := fun q : Str => (Sum.inr q : Key)) (v := fun q => .lst ((f q).map .str)) (fun a _ b _ => inr_inj) hp
  rw [hg, Option.bind_some]
  have hpu : muApp (.lst ((f p).map .str)) [.str q] = some (.non, .lst ((f p ++ [q]).map .str)) := by
    unfold muApp
    simp only
    rw [if_pos (by simpa using hl)]
    simp
  show ((muApp (.lst ((f p).map .str)) [.str q]).map _) = _
  rw [hpu]
  have hs : setK (rowsL qs f) (Sum.inr p : Key) (.lst ((f p ++ [q]).map .str)) = rowsL qs fun x => if x = p then f p ++ [q] else f x := by
    unfold rowsL
    rw [setK_map (key := fun q : Str => (Sum.inr q : Key)) (v := fun q => .lst ((f q).map .str)) hn (fun a _ b _ => inr_inj) hp]
    refine List.map_congr_left fun a ha => ?_
    by_cases e : a = p
    · simp [e]
    · simp [e]
  show some (Fl.nx, (En.mk S cs B).put i (.own2 (setK (rowsL qs f) (Sum.inr p : Key) (.lst ((f p ++ [q]).map .str))))) = _
  rw [hs]
  rfl
abbrev brE (d0 d1 : D) (c2 c3 c4 c5 : Cell) : En := ⟨none, [.frz d0, .frz d1, c2, c3, c4, c5], fun _ => none⟩
theorem rows_w {d0 d1 : D} {qs : List Str} {c5 : Cell} (hn : qs.Nodup) : ∀ (xs done : List (Str × Str)) (c3 c4 : Cell), (∀ w ∈ xs, w.1 ∈ qs) → done.length + xs.length < 100000 →
    ∃ c3' c4', forF (.tp [3, 4]) (sMu2 2 muApp (pVar 3) (kCons (fVar 4) aNil)) (xs.map wD) (brE d0 d1 (.own2 (rowsL qs (beat done))) c3 c4 c5) = some (.nx, brE d0 d1 (.own2 (rowsL qs (beat (done ++ xs)))) c3' c4' c5)
  | [], done, c3, c4, _, _ => ⟨c3, c4, by simp [forF]⟩
  | w :: xs, done, c3, c4, hi, hl => by
    obtain ⟨c3', c4', ih⟩ := rows_w (d0 := d0) (d1 := d1) (c5 := c5) hn xs (done ++ [w]) (.frz (.str w.1)) (.frz (.str w.2)) (fun y hy => hi y (List.mem_cons_of_mem _ hy)) (by simp at hl ⊢; omega)
    refine ⟨c3', c4', ?_⟩
    have hlen : (beat done w.1).length < 100000 := by
      have : (beat done w.1).length ≤ done.length := by unfold beat; rw [List.length_map]; exact List.length_filter_le _ _
      simp at hl
      omega
    have hb : sMu2 2 muApp (pVar 3) (kCons (fVar 4) aNil) (brE d0 d1 (.own2 (rowsL qs (beat done))) (.frz (.str w.1)) (.frz (.str w.2)) c5) = some (.nx, brE d0 d1 (.own2 (rowsL qs (beat (done ++ [w])))) (.frz (.str w.1)) (.frz (.str w.2)) c5) := by
      rw [ev_mu2 (p := w.1) (q := w.2) (qs := qs) (f := beat done) rfl rfl rfl hn (hi w List.mem_cons_self) hlen, beat_app]
      rfl
    rw [List.map_cons, forF]
    show ((some (brE d0 d1 (.own2 (rowsL qs (beat done))) (.frz (.str w.1)) (.frz (.str w.2)) c5)).bind _) = _
    rw [Option.bind_some, hb, Option.bind_some]
    have e : done ++ w :: xs = (done ++ [w]) ++ xs := by simp
    rw [e]
    exact ih
theorem b_rows_ok {ps qs : List Str} {ws : List (Str × Str)} (h : Tour ps ws) (hl : 1 ≤ ps.length ∧ ps.length ≤ 31) (hp : qs.Perm ps) (hs : qs.Pairwise LE) (hw : ws.length ≤ 5000) :
    ∃ ws2 : List (Str × Str), ws2.Perm ws ∧ Φ__law_b_rows [.lst (ps.map .str), .lst (ws.map wD)] = some (fz (.dk (rowsL qs (beat ws2)))) := by
  have hq : Tour qs ws := h.perm hp (List.Perm.refl _)
  have hql : qs.length ≤ 31 := by rw [hp.length_eq]; exact hl.2
  obtain ⟨ws2, h1, h2⟩ := perm_map_inv (sortD_perm (ws.map wD))
  refine ⟨ws2, h1, ?_⟩
  have hq2 : Tour qs ws2 := hq.perm (List.Perm.refl _) h1
  have hw2 : ws2.length ≤ 5000 := by rw [h1.length_eq]; exact hw
  obtain ⟨c3', c4', h3⟩ := rows_w (d0 := .lst (ps.map .str)) (d1 := .lst (ws.map wD)) (qs := qs) (c5 := .no) hq.nd ws2 [] .no .no (fun w hw => (hq2.ins w hw).1) (by simp; omega)
  apply ev_runF
  refine ⟨brE (.lst (ps.map .str)) (.lst (ws.map wD)) (.frz (.dk (rowsL qs (beat ws2)))) c3' c4' .no, ?_⟩
  show g__law_b_rows (brE (.lst (ps.map .str)) (.lst (ws.map wD)) .no .no .no .no) = _
  unfold g__law_b_rows
  refine ev_seq (e1 := brE (.lst (ps.map .str)) (.lst (ws.map wD)) (.own2 (nd qs (.lst []))) .no .no .no) (ev_set2dc (xs := qs) (ev_items (r := nw (.lst (qs.map .str))) (ev_app (ev_aCons (ev_pVarF rfl) ev_aNil) (sort_ev ps hp hs)) (.inl rfl)) (by omega) hq.nd (by simp) fun c => rfl) ?_
  refine ev_seq (e1 := brE (.lst (ps.map .str)) (.lst (ws.map wD)) (.own2 (rowsL qs (beat ws2))) c3' c4' .no) (ev_for (S1 := none) (ds := ws2.map wD) ?_ h3) ?_
  · have hc : fComp (fItems (fVar 1)) (.nm 5) [5] tYes' (fApp bTup (aCons (pVar 5) aNil)) (brE (.lst (ps.map .str)) (.lst (ws.map wD)) (.own2 (nd qs (.lst []))) .no .no .no) = some (nw (.lst (ws.map wD)), none) :=
      ev_comp (S1 := none) (ds := ws.map wD) (ev_items (r := fz (.lst (ws.map wD))) (ev_fVar rfl) (.inl rfl)) (by simp; omega) (by simp [Tg.slots]) (compF_mapx (v := wD) fun w hw => ⟨_, fz (wD w), rfl, rfl, rfl, rfl⟩)
    have hso : bSortL [.lst (ws.map wD)] = some (nw (.lst (ws2.map wD))) := by
      unfold bSortL
      simp only
      rw [if_pos (sortOk_ws ws), h2]
    exact ev_items (r := nw (.lst (ws2.map wD))) (ev_app (ev_aCons (ev_pE' hc) ev_aNil) hso) (.inl rfl)
  · exact ev_fz2 rfl (ev_retVF rfl)
end Al.Cm


set_option Elab.async false
set_option linter.all false
set_option maxRecDepth 100000
/-! Plain facts: what plays tell. -/
namespace Al.Cm
open PySem PySem.Spec PyProof.Rows L2 Al
def plD (qs : List Str) (ws : List (Str × Str)) : D := .ins 0 [(("rows" : Str), D.dk (rowsD qs (beat ws)))]
theorem plD_rows {qs : List Str} {ws : List (Str × Str)} : fldD 0 "rows" (plD qs ws) = some (.dk (rowsD qs (beat ws))) := by
  simp [plD, fldD, List.lookup]
theorem keys_map {α : Type} {xs : List α} {k : α → Str} {v : α → D} : DK.keys (xs.map fun x => ((Sum.inr (k x) : Key), v x)) = xs.map fun x => .str (k x) := by
  unfold DK.keys
  rw [List.map_map]
  rfl
theorem keys_rowsD {qs : List Str} {f : Str → List Str} : DK.keys (rowsD qs f) = qs.map .str := keys_map (k := fun q => q)
theorem ev_fld {i : Nat} {S : Option Spr} {cs : List Cell} {B : Hp} {qs : List Str} {ws : List (Str × Str)} (h : cs[i]? = some (.frz (plD qs ws))) : fFld 0 "rows" (pVar i) ⟨S, cs, B⟩ = some (fz (.dk (rowsD qs (beat ws))), S) := by
  unfold fFld
  rw [ev_pVarF h, Option.bind_some]
  show ((fldD 0 "rows" (plD qs ws)).map _) = _
  rw [plD_rows]
  rfl
theorem ev_dgetK {pa pb : PF} {S S1 S2 : Option Spr} {cs : List Cell} {B : Hp} {kvs : List (Key × D)} {s : Str} {d : D} (h1 : pa ⟨S, cs, B⟩ = some (.dk kvs, S1)) (h2 : pb ⟨S1, cs, B⟩ = some (.str s, S2)) (h3 : getK kvs (Sum.inr s : Key) = some d) : fDget pa pb ⟨S, cs, B⟩ = some (fz d, S2) := by
  unfold fDget
  rw [h1]; simp only [Option.bind_some]
  rw [st_mk, h2]; simp only [Option.bind_some]
  have : lookD (.dk kvs) (.str s) = some (some d) := by
    unfold lookD
    show ((some (Sum.inr s : Key)).map _) = _
    rw [Option.map_some, h3]
  rw [this]
theorem get_rowsD {qs : List Str} {f : Str → List Str} {q : Str} (h : q ∈ qs) : getK (rowsD qs f) (Sum.inr q : Key) = some (dset (f q)) := getK_map (key := fun q : Str => (Sum.inr q : Key)) (v := fun q => dset (f q)) (fun a _ b _ => inr_inj) h
theorem get_rowsL {qs : List Str} {f : Str → List Str} {q : Str} (h : q ∈ qs) : getK (rowsL qs f) (Sum.inr q : Key) = some (.lst ((f q).map .str)) := getK_map (key := fun q : Str => (Sum.inr q : Key)) (v := fun q => .lst ((f q).map .str)) (fun a _ b _ => inr_inj) h
theorem players_ok {qs : List Str} {ws : List (Str × Str)} : Φ_players [plD qs ws] = some (nw (.lst (qs.map .str))) := by
  apply ev_runF
  refine ⟨⟨none, [.frz (plD qs ws)], fun _ => none⟩, ?_⟩
  show g_players ⟨none, [.frz (plD qs ws)], fun _ => none⟩ = _
  unfold g_players
  rw [← keys_rowsD (f := beat ws)]
  exact ev_ret (ev_app (ev_aCons (ev_pE' (ev_fld rfl)) ev_aNil) rfl)
noncomputable def srt (xs : List Str) : List Str := (sort_strs xs).choose
theorem srt_perm (xs : List Str) : (srt xs).Perm xs := (sort_strs xs).choose_spec.1
theorem srt_pw (xs : List Str) : (srt xs).Pairwise LE := (sort_strs xs).choose_spec.2.2
noncomputable def winsL (qs : List Str) (ws : List (Str × Str)) : List (Str × Str) := qs.flatMap fun q => (srt (beat ws q)).map (q, ·)
theorem mem_winsL {qs : List Str} {ws : List (Str × Str)} {w : Str × Str} (h : Tour qs ws) : w ∈ winsL qs ws ↔ w ∈ ws := by
  unfold winsL
  rw [List.mem_flatMap]
  constructor
  · rintro ⟨q, _, hw⟩
    obtain ⟨x, hx, rfl⟩ := List.mem_map.mp hw
    exact mem_beat.mp ((srt_perm _).mem_iff.mp hx)
  · intro hw
    exact ⟨w.1, (h.ins w hw).1, List.mem_map.mpr ⟨w.2, (srt_perm _).mem_iff.mpr (mem_beat.mpr hw), rfl⟩⟩
theorem beat_nodup {ws : List (Str × Str)} (h : ws.Nodup) (q : Str) : (beat ws q).Nodup := by
  unfold beat
  have h1 : (ws.filter fun w => decide (w.1 = q)).Nodup := h.filter _
  unfold List.Nodup at h1 ⊢
  rw [List.pairwise_map]
  refine List.Pairwise.imp_of_mem ?_ h1
  intro a b ha hb hne e
  have e1 : a.1 = q := by simpa using (List.mem_filter.mp ha).2
  have e2 : b.1 = q := by simpa using (List.mem_filter.mp hb).2
  exact hne (Prod.ext (e1.trans e2.symm) e)
theorem beat_len {qs : List Str} {ws : List (Str × Str)} (h : Tour qs ws) (q : Str) : (beat ws q).length ≤ qs.length :=
  nodup_len (beat_nodup h.wnd q) fun v hv => (h.ins _ (mem_beat.mp hv)).2
theorem winsL_nodup {ws : List (Str × Str)} (hw : ws.Nodup) : ∀ {qs : List Str}, qs.Nodup → (winsL qs ws).Nodup
  | [], _ => by simp [winsL]
  | q :: qs, hn => by
    have hc := List.nodup_cons.mp hn
    have e : winsL (q :: qs) ws = (srt (beat ws q)).map (q, ·) ++ winsL qs ws := by simp [winsL]
    rw [e, List.nodup_append]
    refine ⟨?_, winsL_nodup hw hc.2, ?_⟩
    · have h1 : (srt (beat ws q)).Nodup := (srt_perm _).nodup_iff.mpr (beat_nodup hw q)
      unfold List.Nodup at h1 ⊢
      rw [List.pairwise_map]
      exact h1.imp fun hne e => hne (Prod.mk.inj e).2
    · intro a ha b hb e
      subst e
      obtain ⟨x, _, rfl⟩ := List.mem_map.mp ha
      unfold winsL at hb
      obtain ⟨q', hq', hb⟩ := List.mem_flatMap.mp hb
      obtain ⟨y, _, e⟩ := List.mem_map.mp hb
      exact hc.1 ((Prod.mk.inj e).1 ▸ hq')
theorem compF2_map {T T1 : Tg} {s1 : AF} {vs1 : List Nat} {f : FE} {e : En} {S : Option Spr} {g : Str → D} {v : Str → List D} : ∀ {xs : List Str}, (∀ x ∈ xs, ∃ e1 ds, tgD T (g x) (e.st S) = some e1 ∧ e1.S = S ∧ s1 (e1.st S) = some (ds, S) ∧ ds.length ≤ 10000 ∧ compF T1 tYes' f (e1.wipe vs1) ds S = some (v x, S)) → compF2 T tYes' s1 T1 vs1 tYes' f e (xs.map g) S = some (xs.flatMap v, S)
  | [], _ => rfl
  | x :: xs, h => by
    obtain ⟨e1, ds, h1, h0, h2, h3, h4⟩ := h x List.mem_cons_self
    have ih := compF2_map (T := T) (T1 := T1) (s1 := s1) (vs1 := vs1) (f := f) (e := e) (S := S) (g := g) (v := v) (xs := xs) fun y hy => h y (List.mem_cons_of_mem _ hy)
    rw [List.map_cons, compF2]
    rw [h1, Option.bind_some]
    show ((some (true, e1.S)).bind _) = _
    rw [Option.bind_some]
    simp only [if_true, h0]
    rw [h2]
    simp only [Option.bind_some]
    rw [if_pos h3, h4]
    simp only [Option.bind_some]
    rw [ih]
    rfl
theorem wins_ok {qs : List Str} {ws : List (Str × Str)} (h : Tour qs ws) (hl : qs.length ≤ 31) : Φ_wins [plD qs ws] = some (nw (.lst ((winsL qs ws).map wD))) := by
  apply ev_runF
  refine ⟨⟨none, [.frz (plD qs ws), .no, .no], fun _ => none⟩, ?_⟩
  show g_wins ⟨none, [.frz (plD qs ws), .no, .no], fun _ => none⟩ = _
  unfold g_wins
  refine ev_ret ?_
  have hd : dKeys (vFld 0 "rows" (vVar 0)) ⟨none, [.frz (plD qs ws), .no, .no], fun _ => none⟩ = some (qs.map .str) := by
    show ((fldD 0 "rows" (plD qs ws)).bind keysD) = _
    rw [plD_rows, Option.bind_some]
    show some (DK.keys _) = _
    rw [keys_rowsD]
  have hc : compF2 (.nm 1) tYes' (fItems (fApp bSortD (aCons (pE (fDget (pE (fFld 0 "rows" (pVar 0))) (pVar 1))) aNil))) (.nm 2) [2] tYes' (fTup (kCons (fVar 1) (kCons (fVar 2) aNil))) ⟨none, [.frz (plD qs ws), .no, .no], fun _ => none⟩ (qs.map .str) none = some (qs.flatMap fun q => ((srt (beat ws q)).map fun x => wD (q, x)), none) := by
    refine compF2_map fun q hq => ⟨⟨none, [.frz (plD qs ws), .frz (.str q), .no], fun _ => none⟩, (srt (beat ws q)).map .str, rfl, rfl, ?_, ?_, ?_⟩
    · have h1 : fDget (pE (fFld 0 "rows" (pVar 0))) (pVar 1) ⟨none, [.frz (plD qs ws), .frz (.str q), .no], fun _ => none⟩ = some (fz (dset (beat ws q)), none) :=
        ev_dgetK (ev_pE' (ev_fld rfl)) (ev_pVarF rfl) (get_rowsD hq)
      have h2 : bSortD [dset (beat ws q)] = some (nw (.lst ((srt (beat ws q)).map .str))) := sortD_ev (srt_perm _) (srt_pw _) (by have := beat_len h q; omega)
      exact ev_items (r := nw (.lst ((srt (beat ws q)).map .str))) (ev_app (ev_aCons (ev_pE' h1) ev_aNil) h2) (.inl rfl)
    · have := beat_len h q
      rw [List.length_map, (srt_perm _).length_eq]; omega
    · exact compF_mapx (g := D.str) (v := fun x => wD (q, x)) fun x hx => ⟨⟨none, [.frz (plD qs ws), .frz (.str q), .frz (.str x)], fun _ => none⟩, fz (wD (q, x)), rfl, rfl, rfl, rfl⟩
  have hv : (winsL qs ws).map wD = qs.flatMap fun q => ((srt (beat ws q)).map fun x => wD (q, x)) := by
    unfold winsL
    rw [List.map_flatMap]
    congr 1
    funext q
    rw [List.map_map]
    rfl
  have hz : (qs.map D.str).length ≤ 1000 ∧ (∀ k ∈ (Tg.nm 1).slots, k ∈ [1, 2]) ∧ ∀ k ∈ (Tg.nm 2).slots, k ∈ [2] := ⟨by rw [List.length_map]; omega, by decide, by decide⟩
  unfold fComp2D
  rw [hd, Option.bind_some, if_pos hz, hv]
  show ((compF2 (.nm 1) tYes' (fItems (fApp bSortD (aCons (pE (fDget (pE (fFld 0 "rows" (pVar 0))) (pVar 1))) aNil))) (.nm 2) [2] tYes' (fTup (kCons (fVar 1) (kCons (fVar 2) aNil))) ⟨none, [.frz (plD qs ws), .no, .no], fun _ => none⟩ (qs.map .str) none).map _) = _
  rw [hc]
  rfl
def swp (w : Str × Str) : Str × Str := (w.2, w.1)
theorem Tour.swap {qs : List Str} {ws : List (Str × Str)} (h : Tour qs ws) : Tour qs ((winsL qs ws).map swp) := by
  have hm : ∀ a b, (a, b) ∈ (winsL qs ws).map swp ↔ (b, a) ∈ ws := fun a b => by
    rw [List.mem_map]
    constructor
    · rintro ⟨w, hw, e⟩
      have := (mem_winsL h).mp hw
      obtain ⟨w1, w2⟩ := w
      obtain ⟨rfl, rfl⟩ := Prod.mk.inj e
      exact this
    · exact fun hw => ⟨(b, a), (mem_winsL h).mpr hw, rfl⟩
  refine ⟨h.nd, h.ok, fun w hw => ?_, ?_, fun a b hab hba => h.asym _ _ ((hm _ _).mp hab) ((hm _ _).mp hba), fun a b ha hb hne => ?_⟩
  · have := h.ins _ ((hm w.1 w.2).mp hw)
    exact ⟨this.2, this.1⟩
  · have h1 := winsL_nodup h.wnd h.nd
    unfold List.Nodup at h1 ⊢
    rw [List.pairwise_map]
    exact h1.imp fun hne e => hne (Prod.ext (Prod.mk.inj e).2 (Prod.mk.inj e).1)
  · rcases h.tot a b ha hb hne with x | x
    · exact .inr ((hm _ _).mpr x)
    · exact .inl ((hm _ _).mpr x)
theorem winsL_len {qs : List Str} {ws : List (Str × Str)} (h : Tour qs ws) : (winsL qs ws).length = ws.length :=
  Nat.le_antisymm (nodup_len (winsL_nodup h.wnd h.nd) fun v hv => (mem_winsL h).mp hv) (nodup_len h.wnd fun v hv => (mem_winsL h).mpr hv)
theorem ev_mk {c n : Nat} {Φ : FnI} {fa : AF} {S S1 : Option Spr} {cs : List Cell} {B : Hp} {ds : List D} {fs : List (Str × D)} (h1 : fa ⟨S, cs, B⟩ = some (ds, S1)) (hl : ds.length + 1 = n) (h2 : Φ ds = some fs) : fMk c Φ n fa ⟨S, cs, B⟩ = some (nw (.ins c fs), S1) := by
  unfold fMk
  rw [h1, Option.bind_some]
  simp only [hl, if_true]
  rw [h2]; rfl
theorem ev_mt {m : Str} {Φ : Fn} {fo : FE} {S S1 : Option Spr} {cs : List Cell} {B : Hp} {qs : List Str} {ws : List (Str × Str)} {o : Bool} {r : Rs} (h1 : fo ⟨S, cs, B⟩ = some (⟨plD qs ws, o⟩, S1)) (hm : ("rows" : Str) ≠ m) (h2 : Φ [plD qs ws] = some r) : fMt 0 m Φ 1 fo aNil ⟨S, cs, B⟩ = some (r, S1) := by
  unfold fMt
  rw [h1, Option.bind_some]
  have hn : ([(("rows" : Str), D.dk (rowsD qs (beat ws)))] : List (Str × D)).lookup m = none := by
    rw [List.lookup_cons]
    have : (m == "rows") = false := by
      rw [beq_eq_false_iff_ne]
      exact fun e => hm e.symm
    rw [this]; rfl
  show (if (0 : Nat) = 0 ∧ ([(("rows" : Str), D.dk (rowsD qs (beat ws)))] : List (Str × D)).lookup m = none then _ else none) = _
  rw [if_pos ⟨rfl, hn⟩]
  show ((Φ [plD qs ws]).map _) = _
  rw [h2]; rfl
theorem turned_ok {qs : List Str} {ws : List (Str × Str)} (h : Tour qs ws) (hs : qs.Pairwise LE) (hl : 1 ≤ qs.length ∧ qs.length ≤ 31) (hw : ws.length ≤ 5000) : Φ_turned [plD qs ws] = some (nw (plD qs ((winsL qs ws).map swp))) := by
  apply ev_runF
  refine ⟨⟨none, [.frz (plD qs ws), .no, .no], fun _ => none⟩, ?_⟩
  show g_turned ⟨none, [.frz (plD qs ws), .no, .no], fun _ => none⟩ = _
  unfold g_turned
  have h1 : fMt 0 "players" Φ_players 1 (fVar 0) aNil ⟨none, [.frz (plD qs ws), .no, .no], fun _ => none⟩ = some (nw (.lst (qs.map .str)), none) := ev_mt (o := false) (ev_fVar rfl) (by decide) players_ok
  have h2 : fMt 0 "wins" Φ_wins 1 (fVar 0) aNil ⟨none, [.frz (plD qs ws), .no, .no], fun _ => none⟩ = some (nw (.lst ((winsL qs ws).map wD)), none) := ev_mt (o := false) (ev_fVar rfl) (by decide) (wins_ok h hl.2)
  have h3 : fComp (fItems (fMt 0 "wins" Φ_wins 1 (fVar 0) aNil)) (.tp [1, 2]) [1, 2] tYes' (fTup (kCons (fVar 2) (kCons (fVar 1) aNil))) ⟨none, [.frz (plD qs ws), .no, .no], fun _ => none⟩ = some (nw (.lst (((winsL qs ws).map swp).map wD)), none) := by
    rw [List.map_map]
    refine ev_comp (ev_items h2 (.inl rfl)) ?_ (by decide) (compF_mapx (g := wD) (v := wD ∘ swp) fun w hw => ⟨⟨none, [.frz (plD qs ws), .frz (.str w.1), .frz (.str w.2)], fun _ => none⟩, fz (wD (swp w)), rfl, rfl, rfl, rfl⟩)
    rw [List.length_map, winsL_len h]; omega
  exact ev_ret (ev_mk (ev_kCons h1 (ev_kCons h3 ev_aNil)) rfl (plays_ok h.swap hl (List.Perm.refl _) hs (by rw [List.length_map, winsL_len h]; exact hw)))
/-! scores -/
def scD (qs : List Str) (f : Str → Int) : List (Key × D) := qs.map fun q => ((Sum.inr q : Key), .int (f q))
theorem compKF_map {T : Tg} {fk : PF} {fv : FE} {e : En} {S : Option Spr} {f : Str → Int} {g : Str → D} : ∀ {xs acc : List Str}, (acc ++ xs).Nodup → (∀ x ∈ xs, ∃ e1 r, tgD T (g x) (e.st S) = some e1 ∧ e1.S = S ∧ fk (e1.st S) = some (.str x, S) ∧ fv (e1.st S) = some (r, S) ∧ r.d = .int (f x)) → compKF T tYes' fk fv e (xs.map g) (scD acc f) S = some (scD (acc ++ xs) f, S)
  | [], acc, _, _ => by simp [compKF]
  | x :: xs, acc, hn, h => by
    obtain ⟨e1, r, h1, h0, h3, h4, h5⟩ := h x List.mem_cons_self
    have hx : x ∉ acc := fun hx => (List.nodup_append.mp hn).2.2 x hx x List.mem_cons_self rfl
    have ih := compKF_map (T := T) (fk := fk) (fv := fv) (e := e) (S := S) (f := f) (g := g) (xs := xs) (acc := acc ++ [x]) (by simpa using hn) fun y hy => h y (List.mem_cons_of_mem _ hy)
    have hp : putD (scD acc f) (Sum.inr x : Key) (.int (f x)) = scD (acc ++ [x]) f := by
      rw [putD_new]
      · unfold scD; simp
      · intro kv hkv e
        obtain ⟨y, hy, rfl⟩ := List.mem_map.mp hkv
        exact hx (inr_inj e ▸ hy)
    rw [List.map_cons, compKF]
    rw [h1, Option.bind_some]
    show ((some (true, e1.S)).bind _) = _
    simp only [h0, h3, h4, h5, Option.bind_some, if_true, toKey, hp]
    rw [ih]
    simp
theorem score_e {S : Option Spr} {cs : List Cell} {B : Hp} {qs : List Str} {ws : List (Str × Str)} {q : Str} {i j : Nat} (h1 : cs[i]? = some (.frz (plD qs ws))) (h2 : cs[j]? = some (.frz (.str q))) (h : q ∈ qs) :
    fApp bLenD (aCons (pE (fDget (pE (fFld 0 "rows" (pVar i))) (pVar j))) aNil) ⟨S, cs, B⟩ = some (fz (.int (beat ws q).length), S) := by
  have hg : fDget (pE (fFld 0 "rows" (pVar i))) (pVar j) ⟨S, cs, B⟩ = some (fz (dset (beat ws q)), S) := ev_dgetK (ev_pE' (ev_fld h1)) (ev_pVarF h2) (get_rowsD h)
  refine ev_app (ev_aCons (ev_pE' hg) ev_aNil) ?_
  show some (fz (.int (((beat ws q).map fun x => ((Sum.inr x : Key), D.bl true)).length : Nat))) = _
  rw [List.length_map]
def sc (ws : List (Str × Str)) (q : Str) : Int := (beat ws q).length
theorem own_keys {qs : List Str} {ws : List (Str × Str)} {S : Option Spr} {cs : List Cell} {B : Hp} (h : cs[0]? = some (.frz (plD qs ws))) : dOwn 0 "rows" (vVar 0) ⟨S, cs, B⟩ = some (qs.map .str) := by
  unfold dOwn vVar
  simp only [h, Option.bind_some]
  unfold ownKeys
  rw [plD_rows, Option.bind_some]
  show some (DK.keys _) = _
  rw [keys_rowsD]
theorem scores_ok {qs : List Str} {ws : List (Str × Str)} (h : qs.Nodup) (hl : qs.length ≤ 31) : Φ_scores [plD qs ws] = some (nw (.dk (scD qs (sc ws)))) := by
  apply ev_runF
  refine ⟨⟨none, [.frz (plD qs ws), .no], fun _ => none⟩, ?_⟩
  show g_scores ⟨none, [.frz (plD qs ws), .no], fun _ => none⟩ = _
  unfold g_scores
  refine ev_ret ?_
  have hz : (qs.map D.str).length ≤ 100000 ∧ (∀ k ∈ (Tg.nm 1).slots, k ∈ [1]) := ⟨by rw [List.length_map]; omega, by decide⟩
  unfold fDcD
  rw [own_keys rfl, Option.bind_some, if_pos hz]
  have hc : compKF (.nm 1) tYes' (pVar 1) (fApp bLenD (aCons (pE (fDget (pE (fFld 0 "rows" (pVar 0))) (pVar 1))) aNil)) ⟨none, [.frz (plD qs ws), .no], fun _ => none⟩ (qs.map .str) (scD [] (sc ws)) none = some (scD ([] ++ qs) (sc ws), none) :=
    compKF_map (by simpa using h) fun q hq => ⟨⟨none, [.frz (plD qs ws), .frz (.str q)], fun _ => none⟩, _, rfl, rfl, ev_pVarF rfl, score_e rfl rfl hq, rfl⟩
  show ((compKF (.nm 1) tYes' (pVar 1) (fApp bLenD (aCons (pE (fDget (pE (fFld 0 "rows" (pVar 0))) (pVar 1))) aNil)) ⟨none, [.frz (plD qs ws), .no], fun _ => none⟩ (qs.map .str) (scD [] (sc ws)) none).map _) = _
  rw [hc]
  rfl
theorem sort_ints (xs : List Int) : ∃ ys : List Int, ys.Perm xs ∧ sortD (xs.map .int) = ys.map .int := perm_map_inv (sortD_perm (xs.map D.int))
noncomputable def srtI (xs : List Int) : List Int := (sort_ints xs).choose
theorem srtI_perm (xs : List Int) : (srtI xs).Perm xs := (sort_ints xs).choose_spec.1
theorem srtI_eq (xs : List Int) : sortD (xs.map .int) = (srtI xs).map .int := (sort_ints xs).choose_spec.2
theorem score_list_ok {qs : List Str} {ws : List (Str × Str)} (hl : qs.length ≤ 31) : Φ_score_list [plD qs ws] = some (nw (.lst ((srtI (qs.map (sc ws))).map .int))) := by
  apply ev_runF
  refine ⟨⟨none, [.frz (plD qs ws), .no], fun _ => none⟩, ?_⟩
  show g_score_list ⟨none, [.frz (plD qs ws), .no], fun _ => none⟩ = _
  unfold g_score_list
  have hz : (qs.map D.str).length ≤ 100000 ∧ (∀ k ∈ (Tg.nm 1).slots, k ∈ [1]) := ⟨by rw [List.length_map]; omega, by decide⟩
  have hc : fCompD (dOwn 0 "rows" (vVar 0)) (.nm 1) [1] tYes' (fApp bLenD (aCons (pE (fDget (pE (fFld 0 "rows" (pVar 0))) (pVar 1))) aNil)) ⟨none, [.frz (plD qs ws), .no], fun _ => none⟩ = some (nw (.lst ((qs.map (sc ws)).map .int)), none) := by
    unfold fCompD
    rw [own_keys rfl, Option.bind_some, if_pos hz, List.map_map]
    have : compF (.nm 1) tYes' (fApp bLenD (aCons (pE (fDget (pE (fFld 0 "rows" (pVar 0))) (pVar 1))) aNil)) ⟨none, [.frz (plD qs ws), .no], fun _ => none⟩ (qs.map .str) none = some (qs.map (D.int ∘ sc ws), none) :=
      compF_mapx fun q hq => ⟨⟨none, [.frz (plD qs ws), .frz (.str q)], fun _ => none⟩, _, rfl, rfl, score_e rfl rfl hq, rfl⟩
    show ((compF (.nm 1) tYes' (fApp bLenD (aCons (pE (fDget (pE (fFld 0 "rows" (pVar 0))) (pVar 1))) aNil)) ⟨none, [.frz (plD qs ws), .no], fun _ => none⟩ (qs.map .str) none).map _) = _
    rw [this]
    rfl
  refine ev_ret (ev_app (ev_aCons (ev_pE' hc) ev_aNil) ?_)
  unfold bSortL
  simp only
  rw [if_pos (sortOk_ints _), srtI_eq]
end Al.Cm


set_option Elab.async false
set_option linter.all false
set_option maxRecDepth 100000
/-! Plain facts: counting; the same. -/
namespace Al.Cm
open PySem PySem.Spec PyProof.Rows L2 Al
theorem perm_sum {xs ys : List Int} (h : xs.Perm ys) : xs.sum = ys.sum := by
  induction h with
  | nil => rfl
  | cons x _ ih => simp [ih]
  | swap x y l => simp only [List.sum_cons]; omega
  | trans _ _ a b => exact a.trans b
theorem sum_one {p : Str} : ∀ {qs : List Str}, qs.Nodup → p ∈ qs → (qs.map fun q => if p = q then (1 : Int) else 0).sum = 1
  | q :: qs, hn, h => by
    have hc := List.nodup_cons.mp hn
    have hz : ∀ {rs : List Str}, p ∉ rs → (rs.map fun q => if p = q then (1 : Int) else 0).sum = 0 := fun {rs} => by
      induction rs with
      | nil => intro _; rfl
      | cons r rs ih =>
        intro hp
        simp only [List.mem_cons, not_or] at hp
        simp [hp.1, ih hp.2]
    rcases List.mem_cons.mp h with rfl | h
    · simp [hz hc.1]
    · have : ¬ p = q := fun e => hc.1 (e ▸ h)
      simp [this, sum_one hc.2 h]
theorem sum_add {α : Type} (f g : α → Int) : ∀ xs : List α, (xs.map fun x => f x + g x).sum = (xs.map f).sum + (xs.map g).sum
  | [] => rfl
  | x :: xs => by simp only [List.map_cons, List.sum_cons, sum_add f g xs]; omega
theorem sum_sc {qs : List Str} (hn : qs.Nodup) : ∀ {ws : List (Str × Str)}, (∀ w ∈ ws, w.1 ∈ qs) → (qs.map (sc ws)).sum = ws.length
  | [], _ => by
    have : ∀ rs : List Str, (rs.map (sc [])).sum = 0 := fun rs => by
      induction rs with
      | nil => rfl
      | cons r rs ih => rw [List.map_cons, List.sum_cons, ih]; rfl
    rw [this]; rfl
  | w :: ws, h => by
    have e : sc (w :: ws) = fun q => (if w.1 = q then (1 : Int) else 0) + sc ws q := by
      funext q
      unfold sc beat
      by_cases hq : w.1 = q
      · simp [hq]; omega
      · simp [hq]
    rw [e, sum_add, sum_one hn (h w List.mem_cons_self), sum_sc hn fun x hx => h x (List.mem_cons_of_mem _ hx)]
    simp
    omega
theorem beat_perm {ws ws2 : List (Str × Str)} (h : ws2.Perm ws) : sc ws2 = sc ws := by
  funext q
  unfold sc beat
  rw [List.length_map, List.length_map, (h.filter _).length_eq]
theorem mem_swap {qs : List Str} {ws : List (Str × Str)} (h : Tour qs ws) {a b : Str} : (a, b) ∈ (winsL qs ws).map swp ↔ (b, a) ∈ ws := by
  rw [List.mem_map]
  constructor
  · rintro ⟨w, hw, e⟩
    have := (mem_winsL h).mp hw
    obtain ⟨w1, w2⟩ := w
    obtain ⟨rfl, rfl⟩ := Prod.mk.inj e
    exact this
  · exact fun hw => ⟨(b, a), (mem_winsL h).mpr hw, rfl⟩
theorem sc_swap {qs : List Str} {ws : List (Str × Str)} (h : Tour qs ws) {q : Str} (hq : q ∈ qs) : sc ((winsL qs ws).map swp) q = qs.length - 1 - sc ws q := by
  have hs := h.swap
  have hnd : (q :: (beat ws q ++ beat ((winsL qs ws).map swp) q)).Nodup := by
    rw [List.nodup_cons, List.nodup_append]
    refine ⟨fun hm => ?_, beat_nodup h.wnd q, beat_nodup hs.wnd q, fun a ha b hb e => ?_⟩
    · rcases List.mem_append.mp hm with hm | hm
      · exact h.ne (mem_beat.mp hm) rfl
      · exact h.ne ((mem_swap h).mp (mem_beat.mp hm)) rfl
    · subst e
      exact h.asym _ _ (mem_beat.mp ha) ((mem_swap h).mp (mem_beat.mp hb))
  have h1 := nodup_len (vs := q :: (beat ws q ++ beat ((winsL qs ws).map swp) q)) (ns := qs) hnd fun v hv => by
    rcases List.mem_cons.mp hv with rfl | hv
    · exact hq
    · rcases List.mem_append.mp hv with hv | hv
      · exact (h.ins _ (mem_beat.mp hv)).2
      · exact (hs.ins _ (mem_beat.mp hv)).2
  have h2 := nodup_len (vs := qs) (ns := q :: (beat ws q ++ beat ((winsL qs ws).map swp) q)) h.nd fun v hv => by
    by_cases e : v = q
    · subst e; simp
    · refine List.mem_cons_of_mem _ (List.mem_append.mpr ?_)
      rcases h.tot q v hq hv (Ne.symm e) with x | x
      · exact .inl (mem_beat.mpr x)
      · exact .inr (mem_beat.mpr ((mem_swap h).mpr x))
  simp only [List.length_cons, List.length_append] at h1 h2
  unfold sc
  omega
theorem tour_len {qs : List Str} {ws : List (Str × Str)} (h : Tour qs ws) (hl : qs.length ≤ 31) : ws.length ≤ 5000 := by
  have h1 := nodup_len (vs := ws) (ns := qs.flatMap fun a => qs.map (a, ·)) h.wnd fun w hw => by
    rw [List.mem_flatMap]
    exact ⟨w.1, (h.ins w hw).1, List.mem_map.mpr ⟨w.2, (h.ins w hw).2, rfl⟩⟩
  have h2 : (qs.flatMap fun a => qs.map fun x => (a, x)).length = qs.length * qs.length := by
    have : ∀ rs : List Str, (rs.flatMap fun a => qs.map fun x => (a, x)).length = rs.length * qs.length := fun rs => by
      induction rs with
      | nil => simp
      | cons r rs ih => simp only [List.flatMap_cons, List.length_append, ih, List.length_map, List.length_cons, Nat.add_mul]; omega
    exact this qs
  have h3 : qs.length * qs.length ≤ 31 * 31 := Nat.mul_le_mul hl hl
  rw [h2] at h1
  omega
/-! the same -/
abbrev mE (d : D) (c2 c3 c4 : Cell) : En := ⟨none, [.frz d, .frz d, c2, c3, c4], fun _ => none⟩
theorem mIsi0 {Ts : List String} {x : String} {d : D} {c2 c3 c4 : Cell} (k : Bool) (ht : tyN d = some x) (hk : (Ts.any fun T => isT T x) = k) : fIsi Ts (pVar 0) (mE d c2 c3 c4) = some (fz (.bl k), none) := ev_isi (ev_pVarF rfl) ht hk
theorem mIsi1 {Ts : List String} {x : String} {d : D} {c2 c3 c4 : Cell} (k : Bool) (ht : tyN d = some x) (hk : (Ts.any fun T => isT T x) = k) : fIsi Ts (pVar 1) (mE d c2 c3 c4) = some (fz (.bl k), none) := ev_isi (ev_pVarF rfl) ht hk
theorem ev_anT {f g : FE} {S S1 S2 : Option Spr} {cs : List Cell} {B : Hp} {r : Rs} (h1 : f ⟨S, cs, B⟩ = some (fz (.bl true), S1)) (h2 : g ⟨S1, cs, B⟩ = some (r, S2)) : fAn f g ⟨S, cs, B⟩ = some (r, S2) := by
  unfold fAn
  rw [h1]
  exact h2
theorem gEq_bl (a b : Bool) : gEq (.bl a) (.bl b) = some (fz (.bl (decide (a = b)))) := rfl
theorem gNe_bl (a b : Bool) : gNe (.bl a) (.bl b) = some (fz (.bl (!decide (a = b)))) := rfl
theorem gEq_int (a b : Int) : gEq (.int a) (.int b) = some (fz (.bl (decide (a = b)))) := rfl
theorem gNe_int (a b : Int) : gNe (.int a) (.int b) = some (fz (.bl (!decide (a = b)))) := rfl
theorem gEq_str (a b : Str) : gEq (.str a) (.str b) = some (fz (.bl (decide (a = b)))) := rfl
/-- a leaf: a name or a number -/
theorem same_leaf {n : Nat} {d : D} {x : String} (ht : tyN d = some x) (hx : x = "str" ∨ x = "int") (hq : gEq d d = some (fz (.bl true))) (hn : d.isNon = false) (hg : gIsN d .non = some (fz (.bl false))) : Φ__law_same (n + 1) [d, d] = some (fz (.bl true)) := by
  have k1 : (["dict"].any fun T => isT T x) = false := by rcases hx with rfl | rfl <;> rfl
  have k2 : (["list", "tuple"].any fun T => isT T x) = false := by rcases hx with rfl | rfl <;> rfl
  have k3 : (["dict", "list", "tuple"].any fun T => isT T x) = false := by rcases hx with rfl | rfl <;> rfl
  apply ev_runF
  refine ⟨mE d .no .no (.frz (.bl true)), ?_⟩
  show g__law_same (Φ__law_same n) (mE d .no .no .no) = _
  unfold g__law_same
  refine ev_seq (ev_sifF (ev_tEb (mIsi1 false ht k1)) rfl rfl) ?_
  refine ev_seq (ev_sifF (ev_tEb (mIsi1 false ht k2)) rfl rfl) ?_
  have hb : ∀ T k, ([T].any fun T => isT T x) = k → fBin gEq (pE (fIsi [T] (pVar 0))) (pE (fIsi [T] (pVar 1))) (mE d .no .no .no) = some (fz (.bl true), none) := fun T k hk => by
    have := ev_bin (o := gEq) (ev_pE' (mIsi0 (c2 := .no) (c3 := .no) (c4 := .no) k ht hk)) (ev_pE' (mIsi1 (c2 := .no) (c3 := .no) (c4 := .no) k ht hk)) (gEq_bl k k)
    simpa using this
  have hs : fBin gNe (pE (fIsi ["str"] (pVar 0))) (pE (fIsi ["str"] (pVar 1))) (mE d .no .no (.frz (.bl true))) = some (fz (.bl false), none) := by
    have := ev_bin (o := gNe) (ev_pE' (mIsi0 (c2 := .no) (c3 := .no) (c4 := .frz (.bl true)) _ ht (rfl : (["str"].any fun T => isT T x) = _))) (ev_pE' (mIsi1 (c2 := .no) (c3 := .no) (c4 := .frz (.bl true)) _ ht (rfl : (["str"].any fun T => isT T x) = _))) (gNe_bl _ _)
    simpa using this
  refine ev_seq (e1 := mE d .no .no (.frz (.bl true))) (ev_set (ev_anT (hb "bool" _ rfl) (hb "int" _ rfl))) ?_
  refine ev_seq (ev_sifF (ev_tOrF (ev_tEb (mIsi0 false ht k3)) rfl (ev_tOrF (ev_tNt (ev_tEb (ev_fVar (d := .bl true) rfl))) rfl (ev_tEb hs))) rfl rfl) ?_
  exact ev_ret (ev_ifF (ev_tEb (ev_bin (ev_pVarF rfl) (ev_pE' ev_fC) hg)) rfl (ev_bin (ev_pVarF rfl) (ev_pVarF rfl) hq))
theorem same_str (n : Nat) (s : Str) : Φ__law_same (n + 1) [.str s, .str s] = some (fz (.bl true)) := same_leaf rfl (.inl rfl) (by rw [gEq_str]; simp) rfl rfl
theorem same_int (n : Nat) (s : Int) : Φ__law_same (n + 1) [.int s, .int s] = some (fz (.bl true)) := same_leaf rfl (.inr rfl) (by rw [gEq_int]; simp) rfl rfl
theorem same_seq {n : Nat} {d : D} {ds : List D} {x : String} (ht : tyN d = some x) (hd : (d = .lst ds ∧ x = "list") ∨ (d = .tup ds ∧ x = "tuple")) (hl : ds.length ≤ 100000) (h : ∀ y ∈ ds, Φ__law_same n [y, y] = some (fz (.bl true))) : Φ__law_same (n + 1) [d, d] = some (fz (.bl true)) := by
  have k1 : (["dict"].any fun T => isT T x) = false := by rcases hd with ⟨_, rfl⟩ | ⟨_, rfl⟩ <;> rfl
  have k2 : (["list", "tuple"].any fun T => isT T x) = true := by rcases hd with ⟨_, rfl⟩ | ⟨_, rfl⟩ <;> rfl
  have hlen : bLenS [d] = some (fz (.int ds.length)) := by rcases hd with ⟨rfl, _⟩ | ⟨rfl, _⟩ <;> rfl
  have hzip : iZpA (kCons (fVar 0) (kCons (fVar 1) aNil)) (mE d .no .no .no) = some (zipD ds ds, none) := by rcases hd with ⟨rfl, _⟩ | ⟨rfl, _⟩ <;> rfl
  have hz : zipD ds ds = ds.map fun y => .tup [y, y] := by
    unfold zipD
    clear h hl hd hlen hzip
    induction ds with
    | nil => rfl
    | cons d ds ih => rw [List.zip_cons_cons, List.map_cons, List.map_cons, ih]
  apply ev_runF
  refine ⟨mE d .no .no .no, ?_⟩
  show g__law_same (Φ__law_same n) (mE d .no .no .no) = _
  unfold g__law_same
  have hs : ∀ T k, ([T].any fun T => isT T x) = k → fBin gNe (pE (fIsi [T] (pVar 0))) (pE (fIsi [T] (pVar 1))) (mE d .no .no .no) = some (fz (.bl false), none) := fun T k hk => by
    have := ev_bin (o := gNe) (ev_pE' (mIsi0 (c2 := .no) (c3 := .no) (c4 := .no) k ht hk)) (ev_pE' (mIsi1 (c2 := .no) (c3 := .no) (c4 := .no) k ht hk)) (gNe_bl k k)
    simpa using this
  refine ev_seq (ev_sifF (ev_tEb (mIsi1 false ht k1)) rfl rfl) (ev_seqR (ev_sifT (ev_tEb (mIsi1 true ht k2)) rfl ?_))
  refine ev_seq (ev_sifF (ev_tOrF (ev_tEb (hs "list" _ rfl)) rfl (ev_tEb (hs "tuple" _ rfl))) rfl rfl) ?_
  have hL : fBin gEq (pE (fApp bLenS (aCons (pVar 0) aNil))) (pE (fApp bLenS (aCons (pVar 1) aNil))) (mE d .no .no .no) = some (fz (.bl true), none) := by
    have := ev_bin (o := gEq) (ev_pE' (ev_app (k := bLenS) (ev_aCons (a := pVar 0) (ev_pVarF (S := none) (cs := [.frz d, .frz d, .no, .no, .no]) (B := fun _ => none) rfl) ev_aNil) hlen)) (ev_pE' (ev_app (k := bLenS) (ev_aCons (a := pVar 1) (ev_pVarF rfl) ev_aNil) hlen)) (gEq_int _ _)
    simpa using this
  have hc : fComp (iZpA (kCons (fVar 0) (kCons (fVar 1) aNil))) (.tp [2, 3]) [2, 3] tYes' (fCl (Φ__law_same n) 2 (kCons (fVar 2) (kCons (fVar 3) aNil))) (mE d .no .no .no) = some (nw (.lst (ds.map fun _ => .bl true)), none) := by
    rw [hz] at hzip
    refine ev_comp hzip (by simpa using hl) (by decide) (compF_mapx (g := fun y => .tup [y, y]) (v := fun _ => .bl true) fun y hy => ⟨mE d (.frz y) (.frz y) .no, fz (.bl true), rfl, rfl, ?_, rfl⟩)
    exact ev_cl (ev_kCons (ev_fVar rfl) (ev_kCons (ev_fVar rfl) ev_aNil)) rfl (h y hy)
  exact ev_ret (ev_anT hL (ev_app (ev_aCons (ev_pE' hc) ev_aNil) bAll_true))
theorem same_lst {n : Nat} {ds : List D} (hl : ds.length ≤ 100000) (h : ∀ y ∈ ds, Φ__law_same n [y, y] = some (fz (.bl true))) : Φ__law_same (n + 1) [.lst ds, .lst ds] = some (fz (.bl true)) := same_seq rfl (.inl ⟨rfl, rfl⟩) hl h
theorem same_tup {n : Nat} {ds : List D} (hl : ds.length ≤ 100000) (h : ∀ y ∈ ds, Φ__law_same n [y, y] = some (fz (.bl true))) : Φ__law_same (n + 1) [.tup ds, .tup ds] = some (fz (.bl true)) := same_seq rfl (.inr ⟨rfl, rfl⟩) hl h
theorem same_dk {n : Nat} {kvs : List (Key × D)} (h : Φ__law_same n [.lst (itemD kvs), .lst (itemD kvs)] = some (fz (.bl true))) : Φ__law_same (n + 1) [.dk kvs, .dk kvs] = some (fz (.bl true)) := by
  apply ev_runF
  refine ⟨mE (.dk kvs) .no .no .no, ?_⟩
  show g__law_same (Φ__law_same n) (mE (.dk kvs) .no .no .no) = _
  unfold g__law_same
  refine ev_seqR (ev_sifT (ev_tEb (mIsi1 true rfl rfl)) rfl (ev_ret (ev_anT (mIsi0 true rfl rfl) ?_)))
  have h1 : fItL (pVar 0) (mE (.dk kvs) .no .no .no) = some (nw (.lst (itemD kvs)), none) := rfl
  have h2 : fItL (pVar 1) (mE (.dk kvs) .no .no .no) = some (nw (.lst (itemD kvs)), none) := rfl
  exact ev_cl (ev_kCons h1 (ev_kCons h2 ev_aNil)) rfl h
theorem same_scD {n : Nat} {qs : List Str} {f : Str → Int} (hl : qs.length ≤ 100000) : Φ__law_same (n + 4) [.dk (scD qs f), .dk (scD qs f)] = some (fz (.bl true)) := by
  have e : itemD (scD qs f) = qs.map fun q => .tup [.str q, .int (f q)] := by
    unfold itemD scD
    rw [List.map_map]
    rfl
  refine same_dk (e ▸ same_lst (by simpa using hl) fun y hy => ?_)
  obtain ⟨q, _, rfl⟩ := List.mem_map.mp hy
  refine same_tup (by simp) fun z hz => ?_
  rcases List.mem_cons.mp hz with rfl | hz
  · exact same_str n q
  · rcases List.mem_cons.mp hz with rfl | hz
    · exact same_int n _
    · cases hz
theorem same_two {qs : List Str} {f : Str → Int} {xs : List Int} (hl : qs.length ≤ 100000) (hx : xs.length ≤ 100000) : Φ__law_same 6 [.lst [.dk (scD qs f), .lst (xs.map .int)], .lst [.dk (scD qs f), .lst (xs.map .int)]] = some (fz (.bl true)) := by
  refine same_lst (by simp) fun y hy => ?_
  rcases List.mem_cons.mp hy with rfl | hy
  · exact same_scD (n := 1) hl
  · rcases List.mem_cons.mp hy with rfl | hy
    · refine same_lst (by simpa using hx) fun z hz => ?_
      obtain ⟨i, _, rfl⟩ := List.mem_map.mp hz
      exact same_int 3 i
    · cases hy
end Al.Cm


set_option Elab.async false
set_option linter.all false
set_option maxRecDepth 100000
/-! Plain facts: the law's own def. -/
namespace Al.allplay_k04_whole_scores_told
open PySem PySem.Spec PyProof.Rows L2 Al Al.Cm
noncomputable def lw1 : FS := (sUnp [3, 4] (fClS Φ__law_b_drawn 2 (qSpr 2 (qCons (fIf (tEb (fBin iGt (pVar 1) (pE (fC (.int 0))))) (fClS Φ__law_pick 2 (qSpr 2 (qCons (fLst (kCons (fC (.int 1)) (kCons (fC (.int 2)) (kCons (fC (.int 3)) (kCons (fC (.int 5)) (kCons (fC (.int 8)) (kCons (fC (.int 12)) aNil))))))) qNil))) (fClS Φ__law_pick 2 (qSpr 2 (qCons (fLst (kCons (fC (.int 20)) (kCons (fC (.int 31)) aNil))) qNil)))) qNil))))
noncomputable def lw2 : FS := (sUnp [5, 6] (fTup (kCons (fCl Φ__law_b_rows 2 (kCons (fVar 3) (kCons (fVar 4) aNil))) (kCons (fMk 0 Φ_Plays 3 (kCons (fApp bLstS (aCons (pVar 3) aNil)) (kCons (fApp bLstS (aCons (pVar 4) aNil)) aNil))) aNil))))
noncomputable def lw3 : FS := (sSet 7 (fApp bDict (aCons (pE (fComp (fItems (fApp bSortD (aCons (pVar 5) aNil))) (.nm 8) [8] tYes' (fTup (kCons (fVar 8) (kCons (fApp bLenS (aCons (pE (fDget (pVar 5) (pVar 8))) aNil)) aNil))))) aNil)))
noncomputable def lw4 : FS := (sSet 9 (fCl Φ_scores 1 (kCons (fVar 6) aNil)))
noncomputable def lw5 : FS := (sIf (tOr' (tLend 9 (tNt (tEb (fCl (Φ__law_same 6) 2 (kCons (fLst (kCons (fVar 9) (kCons (fCl Φ_score_list 1 (kCons (fVar 6) aNil)) aNil))) (kCons (fLst (kCons (fVar 7) (kCons (fSoV (pVar 7)) aNil))) aNil)))))) (tEb (fBin gNe (pE (fApp bSum (aCons (pE (fCl Φ_score_list 1 (kCons (fVar 6) aNil))) aNil))) (pE (fApp bLenS (aCons (pVar 4) aNil)))))) (sRet (fC (.bl false))) sNx)
noncomputable def lw6 : FS := (sSt 9 puD (pE (fC (.str "late"))) (fC (.int 0)))
noncomputable def lw7 : FS := (sMuE muApp (fCl Φ_score_list 1 (kCons (fVar 6) aNil)) (kCons (fC (.int 0)) aNil))
noncomputable def lw8 : FS := (sIf (tNt (tEb (fCl (Φ__law_same 6) 2 (kCons (fLst (kCons (fClK Φ_scores 1 [0] (kCons (fVar 6) aNil)) (kCons (fClK Φ_score_list 1 [0] (kCons (fVar 6) aNil)) aNil))) (kCons (fLst (kCons (fVar 7) (kCons (fSoV (pVar 7)) aNil))) aNil))))) (sRet (fC (.bl false))) sNx)
noncomputable def lw9 : FS := (sIf (tEb (fDeq true (fCl Φ_scores 1 (kCons (fMt 0 "turned" Φ_turned 1 (fVar 6) aNil) aNil)) (fApp bDict (aCons (pE (fCompD (dKeys (vVar 7)) (.nm 8) [8] tYes' (fTup (kCons (fVar 8) (kCons (fBin iSub (pE (fBin iSub (pE (fApp bLenD (aCons (pVar 5) aNil))) (pE (fC (.int 1))))) (pE (fDget (pVar 7) (pVar 8)))) aNil))))) aNil)))) (sRet (fC (.bl false))) sNx)
noncomputable def lwL : FS := (sRet (fBin (gEqD false) (pE (fCl Φ_score_list 1 (kCons (fMk 0 Φ_Plays 3 (kCons (fLst (kCons (fC (.str "a")) (kCons (fC (.str "b")) (kCons (fC (.str "c")) aNil)))) (kCons (fLst (kCons (fTup (kCons (fC (.str "a")) (kCons (fC (.str "b")) aNil))) (kCons (fTup (kCons (fC (.str "b")) (kCons (fC (.str "c")) aNil))) (kCons (fTup (kCons (fC (.str "c")) (kCons (fC (.str "a")) aNil))) aNil)))) aNil))) aNil))) (pE (fLst (kCons (fC (.int 1)) (kCons (fC (.int 1)) (kCons (fC (.int 1)) aNil)))))))
noncomputable def lwB (a : Addr) (B : Hp) (ns : List Int) : FS := sScope 2 (fClR a B ns 0 Φ__law_spring 2 (kCons (fVar 1) aNil)) (sSeq lw1 (sSeq lw2 (sSeq lw3 (sFz 7 (sSeq lw4 (sSeq lw5 (sSeq lw6 (sSeq lw7 (sSeq lw8 lw9)))))))))
theorem g_law_eq (a : Addr) (B : Hp) (ns : List Int) : g_law a B ns = sSeq (sFor (fRng1 (aCons (pE (fC (.int 5))) aNil)) (.nm 1) (lwB a B ns)) lwL := rfl
abbrev lwE (S : Option Spr) (a : Addr) (B : Hp) (c1 c2 c3 c4 c5 c6 c7 c8 c9 : Cell) : En := ⟨S, [.raw (V.ref a), c1, c2, c3, c4, c5, c6, c7, c8, c9], B⟩
theorem merge_sc {f : Str → Int} : ∀ {xs acc : List Str}, (acc ++ xs).Nodup → mergeD (scD acc f) (scD xs f) = scD (acc ++ xs) f
  | [], acc, _ => by simp [mergeD, scD]
  | x :: xs, acc, hn => by
    have hx : x ∉ acc := fun hx => (List.nodup_append.mp hn).2.2 x hx x List.mem_cons_self rfl
    have hp : putD (scD acc f) (Sum.inr x : Key) (.int (f x)) = scD (acc ++ [x]) f := by
      rw [putD_new]
      · unfold scD; simp
      · intro kv hkv e
        obtain ⟨y, hy, rfl⟩ := List.mem_map.mp hkv
        exact hx (inr_inj e ▸ hy)
    show mergeD (putD (scD acc f) (Sum.inr x : Key) (.int (f x))) (scD xs f) = _
    rw [hp, merge_sc (by simpa using hn)]
    simp
theorem bDict_sc {qs : List Str} {f : Str → Int} (hn : qs.Nodup) : bDict [.lst (qs.map fun q => .tup [.str q, .int (f q)])] = some (nw (.dk (scD qs f))) := by
  have h1 : ∀ rs : List Str, pairsD (rs.map fun q => .tup [.str q, .int (f q)]) = some (scD rs f) := fun rs => by
    induction rs with
    | nil => rfl
    | cons r rs ih =>
      rw [List.map_cons, pairsD]
      show ((some (Sum.inr r : Key)).bind _) = _
      rw [Option.bind_some, ih]
      rfl
  unfold bDict
  simp only
  rw [h1]
  show some (nw (.dk (mergeD (scD [] f) (scD qs f)))) = _
  rw [merge_sc (by simpa using hn)]
  rfl
theorem intsK_sc (f : Str → Int) : ∀ qs : List Str, intsK (scD qs f) = some (qs.map f)
  | [] => rfl
  | q :: qs => by
    show ((intsK (scD qs f)).map _) = _
    rw [intsK_sc f qs]; rfl
theorem get_sc {qs : List Str} {f : Str → Int} {q : Str} (h : q ∈ qs) : getK (scD qs f) (Sum.inr q : Key) = some (.int (f q)) := getK_map (key := fun q : Str => (Sum.inr q : Key)) (v := fun q => .int (f q)) (fun a _ b _ => inr_inj) h
theorem dictEq_sc {qs : List Str} {f : Str → Int} : dictEq (scD qs f) (scD qs f) = true := by
  unfold dictEq
  rw [Bool.and_eq_true]
  refine ⟨beq_self_eq_true _, List.all_eq_true.mpr fun kv hkv => ?_⟩
  obtain ⟨q, hq, rfl⟩ := List.mem_map.mp hkv
  simp only
  rw [get_sc hq]
  simp [eqS]
theorem ev_soV {i : Nat} {S : Option Spr} {cs : List Cell} {B : Hp} {qs : List Str} {f : Str → Int} (h : cs[i]? = some (.frz (.dk (scD qs f)))) : fSoV (pVar i) ⟨S, cs, B⟩ = some (nw (.lst ((srtI (qs.map f)).map .int)), S) := by
  unfold fSoV
  rw [ev_pVarF h]
  simp only [Option.bind_some]
  rw [intsK_sc, Option.map_some, srtI_eq]
theorem many_ok {S : Option Spr} {s : Spr} {a : Addr} {B : Hp} {t : Int} {c3 c4 c5 c6 c7 c8 c9 : Cell} (hs : SprOk 0 s) : ∃ (m : Nat) (s1 : Spr), fIf (tEb (fBin iGt (pVar 1) (pE (fC (.int 0))))) (fClS Φ__law_pick 2 (qSpr 2 (qCons (fLst (kCons (fC (.int 1)) (kCons (fC (.int 2)) (kCons (fC (.int 3)) (kCons (fC (.int 5)) (kCons (fC (.int 8)) (kCons (fC (.int 12)) aNil))))))) qNil))) (fClS Φ__law_pick 2 (qSpr 2 (qCons (fLst (kCons (fC (.int 20)) (kCons (fC (.int 31)) aNil))) qNil))) (lwE (some s) a B (.frz (.int t)) .spr c3 c4 c5 c6 c7 c8 c9) = some (fz (.int m), some s1) ∧ 0 < m ∧ m ≤ 31 ∧ SprOk 1 s1 := by
  have hp : fBin iGt (pVar 1) (pE (fC (.int 0))) (lwE (some s) a B (.frz (.int t)) .spr c3 c4 c5 c6 c7 c8 c9) = some (fz (.bl (decide (t > 0))), some s) := ev_bin (ev_pVarF rfl) (ev_pE' ev_fC) ev_iGt
  by_cases h : t > 0
  · obtain ⟨d, s1, h1, h2, h3⟩ := pick_ok (ds := [.int 1, .int 2, .int 3, .int 5, .int 8, .int 12]) hs (by decide) (by simp) (by simp)
    have hm : ∃ m : Nat, d = .int m ∧ 0 < m ∧ m ≤ 31 := by
      simp only [List.mem_cons, List.not_mem_nil, or_false] at h2
      rcases h2 with rfl | rfl | rfl | rfl | rfl | rfl
      · exact ⟨1, rfl, by decide, by decide⟩
      · exact ⟨2, rfl, by decide, by decide⟩
      · exact ⟨3, rfl, by decide, by decide⟩
      · exact ⟨5, rfl, by decide, by decide⟩
      · exact ⟨8, rfl, by decide, by decide⟩
      · exact ⟨12, rfl, by decide, by decide⟩
    obtain ⟨m, rfl, hm⟩ := hm
    refine ⟨m, s1, ev_ifT (ev_tEb hp) (decide_eq_true h) (ev_clS (ev_qSpr rfl (ev_qCons (r := nw (.lst [.int 1, .int 2, .int 3, .int 5, .int 8, .int 12])) rfl ev_qNil)) rfl h1), hm.1, hm.2, h3⟩
  · obtain ⟨d, s1, h1, h2, h3⟩ := pick_ok (ds := [.int 20, .int 31]) hs (by decide) (by simp) (by simp)
    have hm : ∃ m : Nat, d = .int m ∧ 0 < m ∧ m ≤ 31 := by
      simp only [List.mem_cons, List.not_mem_nil, or_false] at h2
      rcases h2 with rfl | rfl
      · exact ⟨20, rfl, by decide, by decide⟩
      · exact ⟨31, rfl, by decide, by decide⟩
    obtain ⟨m, rfl, hm⟩ := hm
    refine ⟨m, s1, ev_ifF (ev_tEb hp) (decide_eq_false h) (ev_clS (ev_qSpr rfl (ev_qCons (r := nw (.lst [.int 20, .int 31])) rfl ev_qNil)) rfl h1), hm.1, hm.2, h3⟩
theorem ev_muE {g : Mu} {fo : FE} {fa : AF} {S S1 S2 : Option Spr} {cs : List Cell} {B : Hp} {d d' z : D} {ds : List D} (h1 : fo ⟨S, cs, B⟩ = some (nw d, S1)) (h2 : fa ⟨S1, cs, B⟩ = some (ds, S2)) (h3 : g d ds = some (z, d')) : sMuE g fo fa ⟨S, cs, B⟩ = some (.nx, ⟨S2, cs, B⟩) := by
  unfold sMuE
  rw [h1, Option.bind_some]
  show ((fa (En.mk S1 cs B)).bind fun r => (g d r.1).map _) = _
  rw [h2, Option.bind_some, h3]
  rfl
theorem ev_clK {Φ : Fn} {fa : AF} {S S1 : Option Spr} {cs : List Cell} {B : Hp} {d : D} {r : Rs} (h1 : fa ⟨S, cs, B⟩ = some ([d], S1)) (h2 : Φ [d] = some r) : fClK Φ 1 [0] fa ⟨S, cs, B⟩ = some (r, S1) := by
  unfold fClK
  refine ev_cl (ds := [d]) ?_ rfl h2
  rw [h1]
  rfl
theorem ev_deq {fa fb : FE} {S S1 S2 : Option Spr} {cs : List Cell} {B : Hp} {ks ls : List (Key × D)} (h1 : fa ⟨S, cs, B⟩ = some (nw (.dk ks), S1)) (h2 : fb ⟨S1, cs, B⟩ = some (nw (.dk ls), S2)) (h3 : dictEq ks ls = true) : fDeq true fa fb ⟨S, cs, B⟩ = some (fz (.bl false), S2) := by
  unfold fDeq
  rw [h1, Option.bind_some]
  show ((fb (En.mk S1 cs B)).bind _) = _
  rw [h2, Option.bind_some]
  show (if dictEq ks ls = true then _ else none) = _
  rw [if_pos h3]
  rfl
theorem turn_ok {ns : List Int} {a : Addr} {B : Hp} {t : Int} (ht : 0 ≤ t) (hn : ns.length ≤ 63) (c3 c4 c5 c6 c7 c8 c9 : Cell) (hc : [c3, c4, c5, c6, c7, c8, c9].all noSpr = true) :
    ∃ c3' c4' c5' c6' c7' c8' c9', [c3', c4', c5', c6', c7', c8', c9'].all noSpr = true ∧ lwB a B ns (lwE none a B (.frz (.int t)) .no c3 c4 c5 c6 c7 c8 c9) = some (.nx, lwE none a B (.frz (.int t)) .no c3' c4' c5' c6' c7' c8' c9') := by
  obtain ⟨s, hsp, hs⟩ := spring_ok (ns := ns) ht hn
  obtain ⟨m, s1, hm, hm0, hm1, hs1⟩ := many_ok (S := none) (a := a) (B := B) (t := t) (c3 := c3) (c4 := c4) (c5 := c5) (c6 := c6) (c7 := c7) (c8 := c8) (c9 := c9) hs
  obtain ⟨ps, ws, s2, hd, T, hpl, _⟩ := drawn_ok hs1 (by decide) ⟨hm0, by omega⟩
  obtain ⟨qs, hp, _, hq⟩ := sort_strs ps
  have T' : Tour qs ws := T.perm hp (List.Perm.refl _)
  have hql : 1 ≤ qs.length ∧ qs.length ≤ 31 := by rw [hp.length_eq]; omega
  have hpl' : 1 ≤ ps.length ∧ ps.length ≤ 31 := by omega
  have hwl := tour_len T' hql.2
  obtain ⟨ws2, hw2, hrows⟩ := b_rows_ok T hpl' hp hq hwl
  have hplays := plays_ok T hpl' hp hq hwl
  have hsc := scores_ok (ws := ws) T'.nd hql.2
  have hsl := score_list_ok (qs := qs) (ws := ws) hql.2
  have hsum : (srtI (qs.map (sc ws))).sum = ws.length := by rw [perm_sum (srtI_perm _)]; exact sum_sc T'.nd fun w hw => (T'.ins w hw).1
  have hsame := same_two (qs := qs) (f := sc ws) (xs := srtI (qs.map (sc ws))) (by omega) (by rw [(srtI_perm _).length_eq, List.length_map]; omega)
  have hrl : qs.length ≤ 100000 := by omega
  let P1 := Cell.frz (.lst (ps.map .str))
  let W1 := Cell.frz (.lst (ws.map wD))
  let R1 := Cell.frz (.dk (rowsL qs (beat ws2)))
  let O1 := Cell.frz (plD qs ws)
  let U1 := Cell.frz (.dk (scD qs (sc ws)))
  let V1 := Cell.own (.dk (putD (scD qs (sc ws)) (Sum.inr "late" : Key) (.int 0)))
  have e1 : lw1 (lwE (some s) a B (.frz (.int t)) .spr c3 c4 c5 c6 c7 c8 c9) = some (.nx, lwE (some s2) a B (.frz (.int t)) .spr P1 W1 c5 c6 c7 c8 c9) := by
    unfold lw1 sUnp
    rw [ev_clS (n := 2) (ev_qSpr (i := 2) (by rfl) (ev_qCons hm ev_qNil)) rfl hd]
    rfl
  have e2 : lw2 (lwE (some s2) a B (.frz (.int t)) .spr P1 W1 c5 c6 c7 c8 c9) = some (.nx, lwE (some s2) a B (.frz (.int t)) .spr P1 W1 R1 O1 c7 c8 c9) := by
    have h1 : fCl Φ__law_b_rows 2 (kCons (fVar 3) (kCons (fVar 4) aNil)) (lwE (some s2) a B (.frz (.int t)) .spr P1 W1 c5 c6 c7 c8 c9) = some (fz (.dk (rowsL qs (beat ws2))), some s2) :=
      ev_cl (ev_kCons (ev_fVar rfl) (ev_kCons (ev_fVar rfl) ev_aNil)) rfl hrows
    have h2 : fMk 0 Φ_Plays 3 (kCons (fApp bLstS (aCons (pVar 3) aNil)) (kCons (fApp bLstS (aCons (pVar 4) aNil)) aNil)) (lwE (some s2) a B (.frz (.int t)) .spr P1 W1 c5 c6 c7 c8 c9) = some (nw (plD qs ws), some s2) :=
      ev_mk (ev_kCons (ev_app (ev_aCons (ev_pVarF rfl) ev_aNil) ev_bLstS) (ev_kCons (ev_app (ev_aCons (ev_pVarF rfl) ev_aNil) ev_bLstS) ev_aNil)) rfl hplays
    unfold lw2 sUnp
    rw [ev_tup (ev_kCons h1 (ev_kCons h2 ev_aNil)) (by simp)]
    rfl
  have e3 : lw3 (lwE (some s2) a B (.frz (.int t)) .spr P1 W1 R1 O1 c7 c8 c9) = some (.nx, lwE (some s2) a B (.frz (.int t)) .spr P1 W1 R1 O1 (.own (.dk (scD qs (sc ws)))) c8 c9) := by
    have hso : bSortD [.dk (rowsL qs (beat ws2))] = some (nw (.lst (qs.map .str))) := sortD_ev (List.Perm.refl _) hq (by omega)
    have hcp : fComp (fItems (fApp bSortD (aCons (pVar 5) aNil))) (.nm 8) [8] tYes' (fTup (kCons (fVar 8) (kCons (fApp bLenS (aCons (pE (fDget (pVar 5) (pVar 8))) aNil)) aNil))) (lwE (some s2) a B (.frz (.int t)) .spr P1 W1 R1 O1 c7 c8 c9) = some (nw (.lst (qs.map fun q => .tup [.str q, .int (sc ws q)])), some s2) := by
      refine ev_comp (ev_items (r := nw (.lst (qs.map .str))) (ev_app (ev_aCons (ev_pVarF rfl) ev_aNil) hso) (.inl rfl)) (by simpa using hrl) (by decide) (compF_mapx (g := D.str) (v := fun q => .tup [.str q, .int (sc ws q)]) fun q hq => ⟨lwE (some s2) a B (.frz (.int t)) .spr P1 W1 R1 O1 c7 (.frz (.str q)) c9, fz (.tup [.str q, .int (sc ws q)]), rfl, rfl, ?_, rfl⟩)
      have hg : fDget (pVar 5) (pVar 8) (lwE (some s2) a B (.frz (.int t)) .spr P1 W1 R1 O1 c7 (.frz (.str q)) c9) = some (fz (.lst ((beat ws2 q).map .str)), some s2) := ev_dgetK (ev_pVarF rfl) (ev_pVarF rfl) (get_rowsL hq)
      have hl : bLenS [.lst ((beat ws2 q).map .str)] = some (fz (.int (sc ws q))) := by
        rw [← beat_perm hw2]
        show some (fz (.int (((beat ws2 q).map D.str).length : Nat))) = _
        rw [List.length_map]; rfl
      exact ev_tup (ev_kCons (ev_fVar rfl) (ev_kCons (ev_app (ev_aCons (ev_pE' hg) ev_aNil) hl) ev_aNil)) (by simp)
    exact ev_set (ev_app (ev_aCons (ev_pE' hcp) ev_aNil) (bDict_sc T'.nd))
  have e4 : lw4 (lwE (some s2) a B (.frz (.int t)) .spr P1 W1 R1 O1 U1 c8 c9) = some (.nx, lwE (some s2) a B (.frz (.int t)) .spr P1 W1 R1 O1 U1 c8 (.own (.dk (scD qs (sc ws))))) :=
    ev_set (ev_cl (ev_kCons (ev_fVar rfl) ev_aNil) rfl hsc)
  have hsl' : ∀ c9, fCl Φ_score_list 1 (kCons (fVar 6) aNil) (lwE (some s2) a B (.frz (.int t)) .spr P1 W1 R1 O1 U1 c8 c9) = some (nw (.lst ((srtI (qs.map (sc ws))).map .int)), some s2) := fun c9 => ev_cl (ev_kCons (ev_fVar rfl) ev_aNil) rfl hsl
  have hdue : ∀ c9, fLst (kCons (fVar 7) (kCons (fSoV (pVar 7)) aNil)) (lwE (some s2) a B (.frz (.int t)) .spr P1 W1 R1 O1 U1 c8 c9) = some (nw (.lst [.dk (scD qs (sc ws)), .lst ((srtI (qs.map (sc ws))).map .int)]), some s2) := fun c9 =>
    ev_lst (ev_kCons (ev_fVar rfl) (ev_kCons (ev_soV rfl) ev_aNil)) (by simp)
  have e5 : lw5 (lwE (some s2) a B (.frz (.int t)) .spr P1 W1 R1 O1 U1 c8 (.own (.dk (scD qs (sc ws))))) = some (.nx, lwE (some s2) a B (.frz (.int t)) .spr P1 W1 R1 O1 U1 c8 (.own (.dk (scD qs (sc ws))))) := by
    have h1 : fLst (kCons (fVar 9) (kCons (fCl Φ_score_list 1 (kCons (fVar 6) aNil)) aNil)) (lwE (some s2) a B (.frz (.int t)) .spr P1 W1 R1 O1 U1 c8 (.frz (.dk (scD qs (sc ws))))) = some (nw (.lst [.dk (scD qs (sc ws)), .lst ((srtI (qs.map (sc ws))).map .int)]), some s2) :=
      ev_lst (ev_kCons (ev_fVar rfl) (ev_kCons (hsl' _) ev_aNil)) (by simp)
    have h2 : fCl (Φ__law_same 6) 2 (kCons (fLst (kCons (fVar 9) (kCons (fCl Φ_score_list 1 (kCons (fVar 6) aNil)) aNil))) (kCons (fLst (kCons (fVar 7) (kCons (fSoV (pVar 7)) aNil))) aNil)) (lwE (some s2) a B (.frz (.int t)) .spr P1 W1 R1 O1 U1 c8 (.frz (.dk (scD qs (sc ws))))) = some (fz (.bl true), some s2) :=
      ev_cl (ev_kCons h1 (ev_kCons (hdue _) ev_aNil)) rfl hsame
    have h3 : fApp bSum (aCons (pE (fCl Φ_score_list 1 (kCons (fVar 6) aNil))) aNil) (lwE (some s2) a B (.frz (.int t)) .spr P1 W1 R1 O1 U1 c8 (.own (.dk (scD qs (sc ws))))) = some (fz (.int ws.length), some s2) := by
      refine ev_app (ev_aCons (ev_pE' (hsl' _)) ev_aNil) ?_
      have : ∀ xs : List Int, intsD (xs.map .int) = some xs := fun xs => by
        induction xs with
        | nil => rfl
        | cons x xs ih => rw [List.map_cons, intsD, ih]; rfl
      show ((intsD ((srtI (qs.map (sc ws))).map .int)).map _) = _
      rw [this, Option.map_some, hsum]
    have h4 : fApp bLenS (aCons (pVar 4) aNil) (lwE (some s2) a B (.frz (.int t)) .spr P1 W1 R1 O1 U1 c8 (.own (.dk (scD qs (sc ws))))) = some (fz (.int ws.length), some s2) := by
      refine ev_app (ev_aCons (ev_pVarF rfl) ev_aNil) ?_
      show some (fz (.int ((ws.map wD).length : Nat))) = _
      rw [List.length_map]
    have h5 : fBin gNe (pE (fApp bSum (aCons (pE (fCl Φ_score_list 1 (kCons (fVar 6) aNil))) aNil))) (pE (fApp bLenS (aCons (pVar 4) aNil))) (lwE (some s2) a B (.frz (.int t)) .spr P1 W1 R1 O1 U1 c8 (.own (.dk (scD qs (sc ws))))) = some (fz (.bl false), some s2) := by
      have := ev_bin (ev_pE' h3) (ev_pE' h4) (gNe_int _ _)
      simpa using this
    have h6 : tLend 9 (tNt (tEb (fCl (Φ__law_same 6) 2 (kCons (fLst (kCons (fVar 9) (kCons (fCl Φ_score_list 1 (kCons (fVar 6) aNil)) aNil))) (kCons (fLst (kCons (fVar 7) (kCons (fSoV (pVar 7)) aNil))) aNil))))) (lwE (some s2) a B (.frz (.int t)) .spr P1 W1 R1 O1 U1 c8 (.own (.dk (scD qs (sc ws))))) = some (false, some s2) :=
      show tNt (tEb _) (lwE (some s2) a B (.frz (.int t)) .spr P1 W1 R1 O1 U1 c8 (.frz (.dk (scD qs (sc ws))))) = _ from ev_tNt (ev_tEb h2)
    exact ev_sifF (ev_tOrF h6 rfl (ev_tEb h5)) rfl rfl
  have e6 : lw6 (lwE (some s2) a B (.frz (.int t)) .spr P1 W1 R1 O1 U1 c8 (.own (.dk (scD qs (sc ws))))) = some (.nx, lwE (some s2) a B (.frz (.int t)) .spr P1 W1 R1 O1 U1 c8 V1) := by
    have : puD (.dk (scD qs (sc ws))) (.str "late") (.int 0) = some (.dk (putD (scD qs (sc ws)) (Sum.inr "late" : Key) (.int 0))) := by
      unfold puD
      show ((some (Sum.inr ("late" : Str) : Key)).bind _) = _
      rw [Option.bind_some, if_pos (by unfold scD; rw [List.length_map]; omega)]
    unfold lw6 sSt
    show ((puD (.dk (scD qs (sc ws))) (.str "late") (.int 0)).map _) = _
    rw [this]
    rfl
  have e7 : lw7 (lwE (some s2) a B (.frz (.int t)) .spr P1 W1 R1 O1 U1 c8 V1) = some (.nx, lwE (some s2) a B (.frz (.int t)) .spr P1 W1 R1 O1 U1 c8 V1) := by
    refine ev_muE (hsl' V1) (ev_kCons ev_fC ev_aNil) (z := .non) (d' := .lst ((srtI (qs.map (sc ws))).map .int ++ [.int 0])) ?_
    unfold muApp
    simp only
    rw [if_pos (by rw [List.length_map, (srtI_perm _).length_eq, List.length_map]; omega)]
  have e8 : lw8 (lwE (some s2) a B (.frz (.int t)) .spr P1 W1 R1 O1 U1 c8 V1) = some (.nx, lwE (some s2) a B (.frz (.int t)) .spr P1 W1 R1 O1 U1 c8 V1) := by
    have h0 : kCons (fVar 6) aNil (lwE (some s2) a B (.frz (.int t)) .spr P1 W1 R1 O1 U1 c8 V1) = some ([plD qs ws], some s2) := ev_kCons (ev_fVar rfl) ev_aNil
    have h1 : fLst (kCons (fClK Φ_scores 1 [0] (kCons (fVar 6) aNil)) (kCons (fClK Φ_score_list 1 [0] (kCons (fVar 6) aNil)) aNil)) (lwE (some s2) a B (.frz (.int t)) .spr P1 W1 R1 O1 U1 c8 V1) = some (nw (.lst [.dk (scD qs (sc ws)), .lst ((srtI (qs.map (sc ws))).map .int)]), some s2) :=
      ev_lst (ev_kCons (ev_clK h0 hsc) (ev_kCons (ev_clK h0 hsl) ev_aNil)) (by simp)
    exact ev_sifF (ev_tNt (ev_tEb (ev_cl (ev_kCons h1 (ev_kCons (hdue _) ev_aNil)) rfl hsame))) rfl rfl
  have e9 : lw9 (lwE (some s2) a B (.frz (.int t)) .spr P1 W1 R1 O1 U1 c8 V1) = some (.nx, lwE (some s2) a B (.frz (.int t)) .spr P1 W1 R1 O1 U1 c8 V1) := by
    have hst := scores_ok (ws := (winsL qs ws).map swp) T'.nd hql.2
    have hfe : scD qs (sc ((winsL qs ws).map swp)) = scD qs fun q => qs.length - 1 - sc ws q := by
      unfold scD
      refine List.map_congr_left fun q hq => ?_
      rw [sc_swap T' hq]
    have h1 : fCl Φ_scores 1 (kCons (fMt 0 "turned" Φ_turned 1 (fVar 6) aNil) aNil) (lwE (some s2) a B (.frz (.int t)) .spr P1 W1 R1 O1 U1 c8 V1) = some (nw (.dk (scD qs (sc ((winsL qs ws).map swp)))), some s2) :=
      ev_cl (ev_kCons (ev_mt (o := false) (ev_fVar rfl) (by decide) (turned_ok T' hq hql hwl)) ev_aNil) rfl hst
    have h2 : fCompD (dKeys (vVar 7)) (.nm 8) [8] tYes' (fTup (kCons (fVar 8) (kCons (fBin iSub (pE (fBin iSub (pE (fApp bLenD (aCons (pVar 5) aNil))) (pE (fC (.int 1))))) (pE (fDget (pVar 7) (pVar 8)))) aNil))) (lwE (some s2) a B (.frz (.int t)) .spr P1 W1 R1 O1 U1 c8 V1) = some (nw (.lst (qs.map fun q => .tup [.str q, .int (qs.length - 1 - sc ws q)])), some s2) := by
      have hz : (qs.map D.str).length ≤ 100000 ∧ (∀ k ∈ (Tg.nm 8).slots, k ∈ [8]) := ⟨by rw [List.length_map]; omega, by decide⟩
      have hk : dKeys (vVar 7) (lwE (some s2) a B (.frz (.int t)) .spr P1 W1 R1 O1 U1 c8 V1) = some (qs.map .str) := by
        show some (DK.keys (scD qs (sc ws))) = _
        rw [show DK.keys (scD qs (sc ws)) = qs.map .str from keys_map (k := fun q => q)]
      have hcm : compF (.nm 8) tYes' (fTup (kCons (fVar 8) (kCons (fBin iSub (pE (fBin iSub (pE (fApp bLenD (aCons (pVar 5) aNil))) (pE (fC (.int 1))))) (pE (fDget (pVar 7) (pVar 8)))) aNil))) (lwE (some s2) a B (.frz (.int t)) .spr P1 W1 R1 O1 U1 .no V1) (qs.map .str) (some s2) = some (qs.map fun q => .tup [.str q, .int (qs.length - 1 - sc ws q)], some s2) := by
        refine compF_mapx (g := D.str) (v := fun q => .tup [.str q, .int (qs.length - 1 - sc ws q)]) fun q hq => ⟨lwE (some s2) a B (.frz (.int t)) .spr P1 W1 R1 O1 U1 (.frz (.str q)) V1, fz (.tup [.str q, .int (qs.length - 1 - sc ws q)]), rfl, rfl, ?_, rfl⟩
        have h3 : fApp bLenD (aCons (pVar 5) aNil) (lwE (some s2) a B (.frz (.int t)) .spr P1 W1 R1 O1 U1 (.frz (.str q)) V1) = some (fz (.int qs.length), some s2) := by
          refine ev_app (ev_aCons (ev_pVarF rfl) ev_aNil) ?_
          show some (fz (.int ((rowsL qs (beat ws2)).length : Nat))) = _
          unfold rowsL
          rw [List.length_map]
        have h4 : fDget (pVar 7) (pVar 8) (lwE (some s2) a B (.frz (.int t)) .spr P1 W1 R1 O1 U1 (.frz (.str q)) V1) = some (fz (.int (sc ws q)), some s2) := ev_dgetK (ev_pVarF rfl) (ev_pVarF rfl) (get_sc hq)
        have h5 := ev_bin (o := iSub) (ev_pE' h3) (ev_pE' (ev_fC (d := .int 1))) ev_iSub
        have h6 := ev_bin (o := iSub) (ev_pE' h5) (ev_pE' h4) ev_iSub
        exact ev_tup (ev_kCons (ev_fVar rfl) (ev_kCons h6 ev_aNil)) (by simp)
      unfold fCompD
      rw [hk, Option.bind_some, if_pos hz]
      show ((compF (.nm 8) tYes' (fTup (kCons (fVar 8) (kCons (fBin iSub (pE (fBin iSub (pE (fApp bLenD (aCons (pVar 5) aNil))) (pE (fC (.int 1))))) (pE (fDget (pVar 7) (pVar 8)))) aNil))) (lwE (some s2) a B (.frz (.int t)) .spr P1 W1 R1 O1 U1 .no V1) (qs.map .str) (some s2)).map _) = _
      rw [hcm]
      rfl
    have h7 : fApp bDict (aCons (pE (fCompD (dKeys (vVar 7)) (.nm 8) [8] tYes' (fTup (kCons (fVar 8) (kCons (fBin iSub (pE (fBin iSub (pE (fApp bLenD (aCons (pVar 5) aNil))) (pE (fC (.int 1))))) (pE (fDget (pVar 7) (pVar 8)))) aNil))))) aNil) (lwE (some s2) a B (.frz (.int t)) .spr P1 W1 R1 O1 U1 c8 V1) = some (nw (.dk (scD qs fun q => qs.length - 1 - sc ws q)), some s2) :=
      ev_app (ev_aCons (ev_pE' h2) ev_aNil) (bDict_sc T'.nd)
    exact ev_sifF (ev_tEb (ev_deq h1 h7 (by rw [hfe]; exact dictEq_sc))) rfl rfl
  refine ⟨P1, W1, R1, O1, U1, c8, V1, ?_, ?_⟩
  · simp only [List.all_cons, List.all_nil, Bool.and_true, Bool.and_eq_true] at hc ⊢
    exact ⟨rfl, rfl, rfl, rfl, rfl, hc.2.2.2.2.2.1, rfl⟩
  have hbody : (sSeq lw1 (sSeq lw2 (sSeq lw3 (sFz 7 (sSeq lw4 (sSeq lw5 (sSeq lw6 (sSeq lw7 (sSeq lw8 lw9))))))))) (lwE (some s) a B (.frz (.int t)) .spr c3 c4 c5 c6 c7 c8 c9) = some (.nx, lwE (some s2) a B (.frz (.int t)) .spr P1 W1 R1 O1 U1 c8 V1) :=
    ev_seq e1 (ev_seq e2 (ev_seq e3 (ev_fzO rfl (ev_seq e4 (ev_seq e5 (ev_seq e6 (ev_seq e7 (ev_seq e8 e9))))))))
  have hf : fClR a B ns 0 Φ__law_spring 2 (kCons (fVar 1) aNil) (lwE none a B (.frz (.int t)) .no c3 c4 c5 c6 c7 c8 c9) = some (nw (.lst [.int s.a, .int s.b, .int s.c]), none) := by
    unfold fClR
    rw [if_pos (isRaw_ok rfl), ev_kCons (ev_fVar (d := .int t) rfl) ev_aNil, Option.bind_some]
    show ((Φ__law_spring ns [.int t]).map _) = _
    rw [hsp]
    rfl
  unfold lwB sScope
  rw [hf, Option.bind_some]
  show (if (lwE none a B (.frz (.int t)) .no c3 c4 c5 c6 c7 c8 c9).cs.all noSpr = true ∧ 2 < 10 then ((sSeq lw1 (sSeq lw2 (sSeq lw3 (sFz 7 (sSeq lw4 (sSeq lw5 (sSeq lw6 (sSeq lw7 (sSeq lw8 lw9))))))))) (lwE (some s) a B (.frz (.int t)) .spr c3 c4 c5 c6 c7 c8 c9)).bind _ else none) = _
  have hall : (lwE none a B (.frz (.int t)) .no c3 c4 c5 c6 c7 c8 c9).cs.all noSpr = true ∧ 2 < 10 := by
    simp only [List.all_cons, List.all_nil, Bool.and_true, Bool.and_eq_true] at hc ⊢
    exact ⟨⟨rfl, rfl, rfl, hc⟩, by decide⟩
  rw [if_pos hall, hbody, Option.bind_some]
  show (if (lwE none a B (.frz (.int t)) .no P1 W1 R1 O1 U1 c8 V1).cs.all noSpr = true then some (Fl.nx, lwE none a B (.frz (.int t)) .no P1 W1 R1 O1 U1 c8 V1) else none) = _
  rw [if_pos]
  simp only [List.all_cons, List.all_nil, Bool.and_true, Bool.and_eq_true] at hc ⊢
  exact ⟨rfl, rfl, rfl, rfl, rfl, rfl, rfl, rfl, hc.2.2.2.2.2.1, rfl⟩
theorem abc_tour : Tour ["a", "b", "c"] [("a", "b"), ("b", "c"), ("c", "a")] := by
  refine ⟨by decide +kernel, ?_, by decide +kernel, by decide +kernel, ?_, ?_⟩
  · intro y hy
    simp only [List.mem_cons, List.not_mem_nil, or_false] at hy
    rcases hy with rfl | rfl | rfl
    · exact (one_nm (c := 97) (by decide +kernel)).up (by decide)
    · exact (one_nm (c := 98) (by decide +kernel)).up (by decide)
    · exact (one_nm (c := 99) (by decide +kernel)).up (by decide)
  · have h : ∀ w ∈ ([("a", "b"), ("b", "c"), ("c", "a")] : List (Str × Str)), (w.2, w.1) ∉ ([("a", "b"), ("b", "c"), ("c", "a")] : List (Str × Str)) := by decide +kernel
    exact fun a b hab => h (a, b) hab
  · have h : ∀ a ∈ (["a", "b", "c"] : List Str), ∀ b ∈ (["a", "b", "c"] : List Str), a ≠ b → (a, b) ∈ ([("a", "b"), ("b", "c"), ("c", "a")] : List (Str × Str)) ∨ (b, a) ∈ ([("a", "b"), ("b", "c"), ("c", "a")] : List (Str × Str)) := by decide +kernel
    exact fun a b ha hb => h a ha b hb
theorem last_ok {a : Addr} {B : Hp} {c1 c2 c3 c4 c5 c6 c7 c8 c9 : Cell} : lwL (lwE none a B c1 c2 c3 c4 c5 c6 c7 c8 c9) = some (.rt (fz (.bl true)), lwE none a B c1 c2 c3 c4 c5 c6 c7 c8 c9) := by
  have hs : (["a", "b", "c"] : List Str).Pairwise LE := (by decide +kernel : (["a", "b", "c"] : List Str).Pairwise fun a b => ¬ b.cps.toList < a.cps.toList).imp LE_iff.mpr
  have h1 := plays_ok abc_tour (by decide) (List.Perm.refl _) hs (by decide)
  have h2 := score_list_ok (qs := ["a", "b", "c"]) (ws := [("a", "b"), ("b", "c"), ("c", "a")]) (by decide)
  have e : (["a", "b", "c"] : List Str).map (sc [("a", "b"), ("b", "c"), ("c", "a")]) = List.replicate 3 1 := by decide +kernel
  have e2 : srtI ((["a", "b", "c"] : List Str).map (sc [("a", "b"), ("b", "c"), ("c", "a")])) = [1, 1, 1] := (List.perm_replicate (n := 3) (a := (1 : Int))).mp (by rw [← e]; exact srtI_perm _)
  rw [e2] at h2
  have h3 : fCl Φ_score_list 1 (kCons (fMk 0 Φ_Plays 3 (kCons (fLst (kCons (fC (.str "a")) (kCons (fC (.str "b")) (kCons (fC (.str "c")) aNil)))) (kCons (fLst (kCons (fTup (kCons (fC (.str "a")) (kCons (fC (.str "b")) aNil))) (kCons (fTup (kCons (fC (.str "b")) (kCons (fC (.str "c")) aNil))) (kCons (fTup (kCons (fC (.str "c")) (kCons (fC (.str "a")) aNil))) aNil)))) aNil))) aNil) (lwE none a B c1 c2 c3 c4 c5 c6 c7 c8 c9) = some (nw (.lst [.int 1, .int 1, .int 1]), none) :=
    ev_cl (ev_kCons (ev_mk (ds := [.lst ((["a", "b", "c"] : List Str).map .str), .lst (([("a", "b"), ("b", "c"), ("c", "a")] : List (Str × Str)).map wD)]) rfl rfl h1) ev_aNil) rfl h2
  exact ev_ret (ev_bin (ev_pE' h3) (ev_pE' (d := .lst [.int 1, .int 1, .int 1]) (o := true) rfl) rfl)
theorem hfin (a : Addr) (B : Hp) (ns : List Int) (hn : ns.length ≤ 63) : ∃ e', g_law a B ns ⟨none, startI a 10 [], B⟩ = some (.rt (fz (.bl true)), e') := by
  rw [g_law_eq]
  let R : List D → En → Prop := fun ds e => (∀ d ∈ ds, ∃ t : Int, d = .int t ∧ 0 ≤ t) ∧ ∃ c1 c3 c4 c5 c6 c7 c8 c9, [c3, c4, c5, c6, c7, c8, c9].all noSpr = true ∧ e = lwE none a B c1 .no c3 c4 c5 c6 c7 c8 c9
  obtain ⟨e1, h1, _, c1, c3, c4, c5, c6, c7, c8, c9, hc, rfl⟩ := forF_list (T := .nm 1) (b := lwB a B ns) R (fun d ds e hR => by
    obtain ⟨hd, c1, c3, c4, c5, c6, c7, c8, c9, hc, rfl⟩ := hR
    obtain ⟨t, rfl, ht⟩ := hd d List.mem_cons_self
    obtain ⟨c3', c4', c5', c6', c7', c8', c9', hc', h⟩ := turn_ok (a := a) (B := B) ht hn c3 c4 c5 c6 c7 c8 c9 hc
    exact ⟨_, _, rfl, h, fun d hd' => hd d (List.mem_cons_of_mem _ hd'), _, c3', c4', c5', c6', c7', c8', c9', hc', rfl⟩) (rngD 0 5) (lwE none a B .no .no .no .no .no .no .no .no .no) ⟨by
      intro d hd
      simp [rngD] at hd
      obtain ⟨i, hi, rfl⟩ := hd
      exact ⟨i, rfl, by omega⟩, .no, .no, .no, .no, .no, .no, .no, .no, rfl, rfl⟩
  refine ⟨_, ev_seq (ev_for (S1 := none) (ds := rngD 0 5) ?_ h1) last_ok⟩
  exact ev_rng1 (j := 5) (ev_aCons (ev_pE' ev_fC) ev_aNil) (by decide)
end Al.allplay_k04_whole_scores_told


set_option Elab.async false
set_option linter.all false
set_option maxRecDepth 100000
/-! allplay_k04_whole_scores_told: the head. -/
namespace Al.allplay_k04_whole_scores_told
open PySem PySem.Spec PyProof.Rows L2 Al Al.Cm
theorem all_mk {l : PySem.W.OpenLaw} {w : World} {K : PySem.W.Frag} {h : Heap} {mg : Str → Option Value} {fa C f0 f1 f2 f3 f4 f5 f6 f7 f8 f9 f10 f11 f12 f13 f14 f15 f16 f17 f18 f19 f20 f21 : Addr} (X : K.In h) (G : h.Ns mainGlobals mg) (hfa : mg "law" = some (.ref fa))
    {od0 an0 od1 an1 od2 an2 od3 an3 od4 an4 od5 an5 od6 an6 od7 an7 od8 an8 od9 an9 od10 an10 od11 an11 od12 an12 od13 an13 od14 an14 od15 an15 od16 an16 od17 an17 od18 an18 od19 an19 od20 an20 od21 an21 : Option Addr} {sl0 sl1 sl2 sl3 sl4 sl5 sl6 sl7 sl8 sl9 sl10 sl11 sl12 sl13 sl14 sl15 sl16 sl17 sl18 sl19 sl20 sl21 : Array (Option Value)} {oc0 kV0 dc0 pm0 cd0 ct0 oc1 kV1 dc1 pm1 cd1 ct1 oc2 kV2 dc2 pm2 cd2 ct2 oc3 kV3 dc3 pm3 cd3 ct3 oc4 kV4 dc4 pm4 cd4 ct4 oc5 kV5 dc5 pm5 cd5 ct5 oc6 kV6 dc6 pm6 cd6 ct6 oc7 kV7 dc7 pm7 cd7 ct7 oc8 kV8 dc8 pm8 cd8 ct8 oc9 kV9 dc9 pm9 cd9 ct9 oc10 kV10 dc10 pm10 cd10 ct10 oc11 kV11 dc11 pm11 cd11 ct11 oc12 kV12 dc12 pm12 cd12 ct12 oc13 kV13 dc13 pm13 cd13 ct13 oc14 kV14 dc14 pm14 cd14 ct14 oc15 kV15 dc15 pm15 cd15 ct15 oc16 kV16 dc16 pm16 cd16 ct16 oc17 kV17 dc17 pm17 cd17 ct17 oc18 kV18 dc18 pm18 cd18 ct18 oc19 kV19 dc19 pm19 cd19 ct19 oc20 kV20 dc20 pm20 cd20 ct20 oc21 kV21 dc21 pm21 cd21 ct21 : Value} {t_LETTERS t_MANY t_SIGNS : _}
    (aC : PySem.W.nsIn K mainGlobals "Plays" = some (some (.ref C)))
    (a0 : PySem.W.findIn K (.ref C) "__iter__" = some (some (.ref f0)))
    (i0 : PySem.W.isFn K (.ref f0) = true)
    (l0 : K.lookup f0 = some ⟨oc0, od0, .func (PySem.W.fnOf "__iter__" "Plays.__iter__" (defArgs (inClass (top 21) 3)) (defBody (inClass (top 21) 3)) (defScope (inClass (top 21) 3)) .none kV0 dc0 pm0 an0 cd0 ct0), sl0⟩)
    (c0 : PySem.W.codeIn K cd0 "Plays.__iter__" = true)
    (k0 : PySem.W.keepIn K (.ref f0) = true)
    (a1 : PySem.W.nsIn K mainGlobals "is_list" = some (some (.ref f1)))
    (l1 : K.lookup f1 = some ⟨oc1, od1, .func (PySem.W.fnOf "is_list" "is_list" (defArgs (top 7)) (defBody (top 7)) (defScope (top 7)) .none kV1 dc1 pm1 an1 cd1 ct1), sl1⟩)
    (c1 : PySem.W.codeIn K cd1 "is_list" = true)
    (k1 : PySem.W.keepIn K (.ref f1) = true)
    (a2 : PySem.W.nsIn K mainGlobals "is_name" = some (some (.ref f2)))
    (l2 : K.lookup f2 = some ⟨oc2, od2, .func (PySem.W.fnOf "is_name" "is_name" (defArgs (top 8)) (defBody (top 8)) (defScope (top 8)) .none kV2 dc2 pm2 an2 cd2 ct2), sl2⟩)
    (c2 : PySem.W.codeIn K cd2 "is_name" = true)
    (k2 : PySem.W.keepIn K (.ref f2) = true)
    (a3 : PySem.W.nsIn K mainGlobals "are_players" = some (some (.ref f3)))
    (l3 : K.lookup f3 = some ⟨oc3, od3, .func (PySem.W.fnOf "are_players" "are_players" (defArgs (top 18)) (defBody (top 18)) (defScope (top 18)) .none kV3 dc3 pm3 an3 cd3 ct3), sl3⟩)
    (c3 : PySem.W.codeIn K cd3 "are_players" = true)
    (k3 : PySem.W.keepIn K (.ref f3) = true)
    (a4 : PySem.W.nsIn K mainGlobals "are_pairs" = some (some (.ref f4)))
    (l4 : K.lookup f4 = some ⟨oc4, od4, .func (PySem.W.fnOf "are_pairs" "are_pairs" (defArgs (top 19)) (defBody (top 19)) (defScope (top 19)) .none kV4 dc4 pm4 an4 cd4 ct4), sl4⟩)
    (c4 : PySem.W.codeIn K cd4 "are_pairs" = true)
    (k4 : PySem.W.keepIn K (.ref f4) = true)
    (a5 : PySem.W.nsIn K mainGlobals "games_of" = some (some (.ref f5)))
    (l5 : K.lookup f5 = some ⟨oc5, od5, .func (PySem.W.fnOf "games_of" "games_of" (defArgs (top 20)) (defBody (top 20)) (defScope (top 20)) .none kV5 dc5 pm5 an5 cd5 ct5), sl5⟩)
    (c5 : PySem.W.codeIn K cd5 "games_of" = true)
    (k5 : PySem.W.keepIn K (.ref f5) = true)
    (a6 : PySem.W.findIn K (.ref C) "__init__" = some (some (.ref f6)))
    (i6 : PySem.W.isFn K (.ref f6) = true)
    (l6 : K.lookup f6 = some ⟨oc6, od6, .func (PySem.W.fnOf "__init__" "Plays.__init__" (defArgs (inClass (top 21) 0)) (defBody (inClass (top 21) 0)) (defScope (inClass (top 21) 0)) .none kV6 dc6 pm6 an6 cd6 ct6), sl6⟩)
    (c6 : PySem.W.codeIn K cd6 "Plays.__init__" = true)
    (k6 : PySem.W.keepIn K (.ref f6) = true)
    (a7 : PySem.W.findIn K (.ref C) "players" = some (some (.ref f7)))
    (i7 : PySem.W.isFn K (.ref f7) = true)
    (l7 : K.lookup f7 = some ⟨oc7, od7, .func (PySem.W.fnOf "players" "Plays.players" (defArgs (inClass (top 21) 5)) (defBody (inClass (top 21) 5)) (defScope (inClass (top 21) 5)) .none kV7 dc7 pm7 an7 cd7 ct7), sl7⟩)
    (c7 : PySem.W.codeIn K cd7 "Plays.players" = true)
    (k7 : PySem.W.keepIn K (.ref f7) = true)
    (a8 : PySem.W.findIn K (.ref C) "wins" = some (some (.ref f8)))
    (i8 : PySem.W.isFn K (.ref f8) = true)
    (l8 : K.lookup f8 = some ⟨oc8, od8, .func (PySem.W.fnOf "wins" "Plays.wins" (defArgs (inClass (top 21) 6)) (defBody (inClass (top 21) 6)) (defScope (inClass (top 21) 6)) .none kV8 dc8 pm8 an8 cd8 ct8), sl8⟩)
    (c8 : PySem.W.codeIn K cd8 "Plays.wins" = true)
    (k8 : PySem.W.keepIn K (.ref f8) = true)
    (a9 : PySem.W.findIn K (.ref C) "turned" = some (some (.ref f9)))
    (i9 : PySem.W.isFn K (.ref f9) = true)
    (l9 : K.lookup f9 = some ⟨oc9, od9, .func (PySem.W.fnOf "turned" "Plays.turned" (defArgs (inClass (top 21) 14)) (defBody (inClass (top 21) 14)) (defScope (inClass (top 21) 14)) .none kV9 dc9 pm9 an9 cd9 ct9), sl9⟩)
    (c9 : PySem.W.codeIn K cd9 "Plays.turned" = true)
    (k9 : PySem.W.keepIn K (.ref f9) = true)
    (a10 : PySem.W.nsIn K mainGlobals "scores" = some (some (.ref f10)))
    (l10 : K.lookup f10 = some ⟨oc10, od10, .func (PySem.W.fnOf "scores" "scores" (defArgs (top 2)) (defBody (top 2)) (defScope (top 2)) .none kV10 dc10 pm10 an10 cd10 ct10), sl10⟩)
    (c10 : PySem.W.codeIn K cd10 "scores" = true)
    (k10 : PySem.W.keepIn K (.ref f10) = true)
    (a11 : PySem.W.nsIn K mainGlobals "score_list" = some (some (.ref f11)))
    (l11 : K.lookup f11 = some ⟨oc11, od11, .func (PySem.W.fnOf "score_list" "score_list" (defArgs (top 3)) (defBody (top 3)) (defScope (top 3)) .none kV11 dc11 pm11 an11 cd11 ct11), sl11⟩)
    (c11 : PySem.W.codeIn K cd11 "score_list" = true)
    (k11 : PySem.W.keepIn K (.ref f11) = true)
    (a12 : PySem.W.nsIn K mainGlobals "_law_spring" = some (some (.ref f12)))
    (l12 : K.lookup f12 = some ⟨oc12, od12, .func (PySem.W.fnOf "_law_spring" "_law_spring" (defArgs (top 23)) (defBody (top 23)) (defScope (top 23)) .none kV12 dc12 pm12 an12 cd12 ct12), sl12⟩)
    (c12 : PySem.W.codeIn K cd12 "_law_spring" = true)
    (k12 : PySem.W.keepIn K (.ref f12) = true)
    (a13 : PySem.W.nsIn K mainGlobals "_law_draw" = some (some (.ref f13)))
    (l13 : K.lookup f13 = some ⟨oc13, od13, .func (PySem.W.fnOf "_law_draw" "_law_draw" (defArgs (top 24)) (defBody (top 24)) (defScope (top 24)) .none kV13 dc13 pm13 an13 cd13 ct13), sl13⟩)
    (c13 : PySem.W.codeIn K cd13 "_law_draw" = true)
    (k13 : PySem.W.keepIn K (.ref f13) = true)
    (a14 : PySem.W.nsIn K mainGlobals "_law_pick" = some (some (.ref f14)))
    (l14 : K.lookup f14 = some ⟨oc14, od14, .func (PySem.W.fnOf "_law_pick" "_law_pick" (defArgs (top 25)) (defBody (top 25)) (defScope (top 25)) .none kV14 dc14 pm14 an14 cd14 ct14), sl14⟩)
    (c14 : PySem.W.codeIn K cd14 "_law_pick" = true)
    (k14 : PySem.W.keepIn K (.ref f14) = true)
    (a15 : PySem.W.nsIn K mainGlobals "_law_mixed" = some (some (.ref f15)))
    (l15 : K.lookup f15 = some ⟨oc15, od15, .func (PySem.W.fnOf "_law_mixed" "_law_mixed" (defArgs (top 26)) (defBody (top 26)) (defScope (top 26)) .none kV15 dc15 pm15 an15 cd15 ct15), sl15⟩)
    (c15 : PySem.W.codeIn K cd15 "_law_mixed" = true)
    (k15 : PySem.W.keepIn K (.ref f15) = true)
    (a16 : PySem.W.nsIn K mainGlobals "_law_same" = some (some (.ref f16)))
    (l16 : K.lookup f16 = some ⟨oc16, od16, .func (PySem.W.fnOf "_law_same" "_law_same" (defArgs (top 27)) (defBody (top 27)) (defScope (top 27)) .none kV16 dc16 pm16 an16 cd16 ct16), sl16⟩)
    (c16 : PySem.W.codeIn K cd16 "_law_same" = true)
    (k16 : PySem.W.keepIn K (.ref f16) = true)
    (a17 : PySem.W.nsIn K mainGlobals "_law_b_names" = some (some (.ref f17)))
    (l17 : K.lookup f17 = some ⟨oc17, od17, .func (PySem.W.fnOf "_law_b_names" "_law_b_names" (defArgs (top 28)) (defBody (top 28)) (defScope (top 28)) .none kV17 dc17 pm17 an17 cd17 ct17), sl17⟩)
    (c17 : PySem.W.codeIn K cd17 "_law_b_names" = true)
    (k17 : PySem.W.keepIn K (.ref f17) = true)
    (a18 : PySem.W.nsIn K mainGlobals "_law_b_shape" = some (some (.ref f18)))
    (l18 : K.lookup f18 = some ⟨oc18, od18, .func (PySem.W.fnOf "_law_b_shape" "_law_b_shape" (defArgs (top 29)) (defBody (top 29)) (defScope (top 29)) .none kV18 dc18 pm18 an18 cd18 ct18), sl18⟩)
    (c18 : PySem.W.codeIn K cd18 "_law_b_shape" = true)
    (k18 : PySem.W.keepIn K (.ref f18) = true)
    (a19 : PySem.W.nsIn K mainGlobals "_law_b_drawn" = some (some (.ref f19)))
    (l19 : K.lookup f19 = some ⟨oc19, od19, .func (PySem.W.fnOf "_law_b_drawn" "_law_b_drawn" (defArgs (top 30)) (defBody (top 30)) (defScope (top 30)) .none kV19 dc19 pm19 an19 cd19 ct19), sl19⟩)
    (c19 : PySem.W.codeIn K cd19 "_law_b_drawn" = true)
    (k19 : PySem.W.keepIn K (.ref f19) = true)
    (a20 : PySem.W.nsIn K mainGlobals "_law_b_rows" = some (some (.ref f20)))
    (l20 : K.lookup f20 = some ⟨oc20, od20, .func (PySem.W.fnOf "_law_b_rows" "_law_b_rows" (defArgs (top 31)) (defBody (top 31)) (defScope (top 31)) .none kV20 dc20 pm20 an20 cd20 ct20), sl20⟩)
    (c20 : PySem.W.codeIn K cd20 "_law_b_rows" = true)
    (k20 : PySem.W.keepIn K (.ref f20) = true)
    (a21 : PySem.W.nsIn K mainGlobals "law" = some (some (.ref f21)))
    (l21 : K.lookup f21 = some ⟨oc21, od21, .func (PySem.W.fnOf "law" "law" (defArgs (top 35)) (defBody (top 35)) (defScope (top 35)) .none kV21 dc21 pm21 an21 cd21 ct21), sl21⟩)
    (c21 : PySem.W.codeIn K cd21 "law" = true)
    (k21 : PySem.W.keepIn K (.ref f21) = true)
    (pg : PySem.W.plainGet K C Str.empty = true)
    (hd : PySem.W.hasDictIn K C = true)
    (po : PySem.W.plainOver K C = true)
    (sa : PySem.W.findIn K (.ref C) "__setattr__" = some (some (.builtin "object.__setattr__")))
    (mk : PySem.W.makesIn K C = true)
    (kc : PySem.W.keepIn K (.ref C) = true)
    (n_rows : PySem.W.findIn K (.ref C) "rows" = some none)
    (z_all : PySem.W.nsIn K mainGlobals "all" = some none)
    (z_bool : PySem.W.nsIn K mainGlobals "bool" = some none)
    (z_dict : PySem.W.nsIn K mainGlobals "dict" = some none)
    (z_enumerate : PySem.W.nsIn K mainGlobals "enumerate" = some none)
    (z_int : PySem.W.nsIn K mainGlobals "int" = some none)
    (z_isinstance : PySem.W.nsIn K mainGlobals "isinstance" = some none)
    (z_iter : PySem.W.nsIn K mainGlobals "iter" = some none)
    (z_len : PySem.W.nsIn K mainGlobals "len" = some none)
    (z_list : PySem.W.nsIn K mainGlobals "list" = some none)
    (z_max : PySem.W.nsIn K mainGlobals "max" = some none)
    (z_min : PySem.W.nsIn K mainGlobals "min" = some none)
    (z_range : PySem.W.nsIn K mainGlobals "range" = some none)
    (z_sorted : PySem.W.nsIn K mainGlobals "sorted" = some none)
    (z_str : PySem.W.nsIn K mainGlobals "str" = some none)
    (z_sum : PySem.W.nsIn K mainGlobals "sum" = some none)
    (z_tuple : PySem.W.nsIn K mainGlobals "tuple" = some none)
    (z_zip : PySem.W.nsIn K mainGlobals "zip" = some none)
    (c_LETTERS : PySem.W.nsIn K mainGlobals "LETTERS" = some (some (.str "abcdefghijklmnopqrstuvwxyz" t_LETTERS)))
    (c_MANY : PySem.W.nsIn K mainGlobals "MANY" = some (some (.int 31 t_MANY)))
    (c_SIGNS : PySem.W.nsIn K mainGlobals "SIGNS" = some (some (.str "abcdefghijklmnopqrstuvwxyz0123456789" t_SIGNS)))
    : ∃ fd : FuncData, (∀ (s : Shared) (v : Value), BindsTo s fd ⟨[v], []⟩ [("script", v)]) ∧ ∀ base : Heap, K.In base → base.Ns mainGlobals mg → FnOk l.prog w K mg base CX0 7 fa fd ["script"] (spL K) := by
  have e := hfa.symm.trans (PySem.W.mg_of X G a21)
  cases e
  have T : Txt K mg (fun _ => C) f0 := ⟨⟨pg, hd, po, sa⟩, n_rows, a0, i0, PySem.W.mg_none_of X G z_all, PySem.W.mg_none_of X G z_bool, PySem.W.mg_none_of X G z_dict, PySem.W.mg_none_of X G z_enumerate, PySem.W.mg_none_of X G z_int, PySem.W.mg_none_of X G z_isinstance, PySem.W.mg_none_of X G z_iter, PySem.W.mg_none_of X G z_len, PySem.W.mg_none_of X G z_list, PySem.W.mg_none_of X G z_max, PySem.W.mg_none_of X G z_min, PySem.W.mg_none_of X G z_range, PySem.W.mg_none_of X G z_sorted, PySem.W.mg_none_of X G z_str, PySem.W.mg_none_of X G z_sum, PySem.W.mg_none_of X G z_tuple, PySem.W.mg_none_of X G z_zip, ⟨_, PySem.W.mg_of X G c_LETTERS, _, rfl⟩, ⟨_, PySem.W.mg_of X G c_MANY, _, rfl⟩, ⟨_, PySem.W.mg_of X G c_SIGNS, _, rfl⟩⟩
  have F0 := fun_mk (st := (inClass (top 21) 3)) l0 c0 k0
  have b0 := F0.binds (ps := ["self"]) fun _ _ _ _ _ _ us hl => match us, hl with | [_], _ => rfl
  have F1 := fun_mk (st := (top 7)) l1 c1 k1
  have b1 := F1.binds (ps := ["thing"]) fun _ _ _ _ _ _ us hl => match us, hl with | [_], _ => rfl
  have F2 := fun_mk (st := (top 8)) l2 c2 k2
  have b2 := F2.binds (ps := ["thing"]) fun _ _ _ _ _ _ us hl => match us, hl with | [_], _ => rfl
  have F3 := fun_mk (st := (top 18)) l3 c3 k3
  have b3 := F3.binds (ps := ["thing"]) fun _ _ _ _ _ _ us hl => match us, hl with | [_], _ => rfl
  have F4 := fun_mk (st := (top 19)) l4 c4 k4
  have b4 := F4.binds (ps := ["held", "thing"]) fun _ _ _ _ _ _ us hl => match us, hl with | [_, _], _ => rfl
  have F5 := fun_mk (st := (top 20)) l5 c5 k5
  have b5 := F5.binds (ps := ["held", "wins"]) fun _ _ _ _ _ _ us hl => match us, hl with | [_, _], _ => rfl
  have F6 := fun_mk (st := (inClass (top 21) 0)) l6 c6 k6
  have b6 := F6.binds (ps := ["self", "players", "wins"]) fun _ _ _ _ _ _ us hl => match us, hl with | [_, _, _], _ => rfl
  have F7 := fun_mk (st := (inClass (top 21) 5)) l7 c7 k7
  have b7 := F7.binds (ps := ["self"]) fun _ _ _ _ _ _ us hl => match us, hl with | [_], _ => rfl
  have F8 := fun_mk (st := (inClass (top 21) 6)) l8 c8 k8
  have b8 := F8.binds (ps := ["self"]) fun _ _ _ _ _ _ us hl => match us, hl with | [_], _ => rfl
  have F9 := fun_mk (st := (inClass (top 21) 14)) l9 c9 k9
  have b9 := F9.binds (ps := ["self"]) fun _ _ _ _ _ _ us hl => match us, hl with | [_], _ => rfl
  have F10 := fun_mk (st := (top 2)) l10 c10 k10
  have b10 := F10.binds (ps := ["plays"]) fun _ _ _ _ _ _ us hl => match us, hl with | [_], _ => rfl
  have F11 := fun_mk (st := (top 3)) l11 c11 k11
  have b11 := F11.binds (ps := ["plays"]) fun _ _ _ _ _ _ us hl => match us, hl with | [_], _ => rfl
  have F12 := fun_mk (st := (top 23)) l12 c12 k12
  have b12 := F12.binds (ps := ["script", "turn"]) fun _ _ _ _ _ _ us hl => match us, hl with | [_, _], _ => rfl
  have F13 := fun_mk (st := (top 24)) l13 c13 k13
  have b13 := F13.binds (ps := ["spring", "many"]) fun _ _ _ _ _ _ us hl => match us, hl with | [_, _], _ => rfl
  have F14 := fun_mk (st := (top 25)) l14 c14 k14
  have b14 := F14.binds (ps := ["spring", "some"]) fun _ _ _ _ _ _ us hl => match us, hl with | [_, _], _ => rfl
  have F15 := fun_mk (st := (top 26)) l15 c15 k15
  have b15 := F15.binds (ps := ["spring", "some"]) fun _ _ _ _ _ _ us hl => match us, hl with | [_, _], _ => rfl
  have F16 := fun_mk (st := (top 27)) l16 c16 k16
  have b16 := F16.binds (ps := ["found", "due"]) fun _ _ _ _ _ _ us hl => match us, hl with | [_, _], _ => rfl
  have F17 := fun_mk (st := (top 28)) l17 c17 k17
  have b17 := F17.binds (ps := ["spring", "many"]) fun _ _ _ _ _ _ us hl => match us, hl with | [_, _], _ => rfl
  have F18 := fun_mk (st := (top 29)) l18 c18 k18
  have b18 := F18.binds (ps := ["spring", "many"]) fun _ _ _ _ _ _ us hl => match us, hl with | [_, _], _ => rfl
  have F19 := fun_mk (st := (top 30)) l19 c19 k19
  have b19 := F19.binds (ps := ["spring", "many"]) fun _ _ _ _ _ _ us hl => match us, hl with | [_, _], _ => rfl
  have F20 := fun_mk (st := (top 31)) l20 c20 k20
  have b20 := F20.binds (ps := ["players", "wins"]) fun _ _ _ _ _ _ us hl => match us, hl with | [_, _], _ => rfl
  have F21 := fun_mk (st := (top 35)) l21 c21 k21
  refine ⟨PySem.W.fnOf "law" "law" (defArgs (top 35)) (defBody (top 35)) (defScope (top 35)) .none kV21 dc21 pm21 an21 cd21 ct21, fun s v => .of_eq rfl, fun base _ _ => ?_⟩
  have o0 := ok_iter (P := l.prog) (w := w) (base := base) F0 T
  have o1 := ok_is_list (P := l.prog) (w := w) (base := base) F1 T 
  have d1 : Cal _ _ _ _ _ _ _ _ := ⟨⟨f1, _, _, o1, PySem.W.mg_of X G a1, k1, b1⟩⟩
  have o2 := ok_is_name (P := l.prog) (w := w) (base := base) F2 T 
  have d2 : Cal _ _ _ _ _ _ _ _ := ⟨⟨f2, _, _, o2, PySem.W.mg_of X G a2, k2, b2⟩⟩
  have o3 := ok_are_players (P := l.prog) (w := w) (base := base) F3 T d1 d2
  have d3 : Cal _ _ _ _ _ _ _ _ := ⟨⟨f3, _, _, o3, PySem.W.mg_of X G a3, k3, b3⟩⟩
  have o4 := ok_are_pairs (P := l.prog) (w := w) (base := base) F4 T d1
  have d4 : Cal _ _ _ _ _ _ _ _ := ⟨⟨f4, _, _, o4, PySem.W.mg_of X G a4, k4, b4⟩⟩
  have o5 := ok_games_of (P := l.prog) (w := w) (base := base) F5 T 
  have d5 : Cal _ _ _ _ _ _ _ _ := ⟨⟨f5, _, _, o5, PySem.W.mg_of X G a5, k5, b5⟩⟩
  have o6 := ok_Plays (P := l.prog) (w := w) (base := base) F6 T d4 d3 d5
  have q6 : CalI _ _ _ _ _ _ _ _ _ := ⟨⟨f6, _, _, ⟨mk, a6, i6, kc⟩, o6, PySem.W.mg_of X G aC, b6⟩⟩
  have o7 := ok_players (P := l.prog) (w := w) (base := base) F7 T 
  have m7 : CalM _ _ _ _ _ _ _ _ _ := ⟨⟨f7, _, _, ⟨a7, i7, k7⟩, o7, b7⟩⟩
  have o8 := ok_wins (P := l.prog) (w := w) (base := base) F8 T 
  have m8 : CalM _ _ _ _ _ _ _ _ _ := ⟨⟨f8, _, _, ⟨a8, i8, k8⟩, o8, b8⟩⟩
  have o9 := ok_turned (P := l.prog) (w := w) (base := base) F9 T q6 m7 m8
  have m9 : CalM _ _ _ _ _ _ _ _ _ := ⟨⟨f9, _, _, ⟨a9, i9, k9⟩, o9, b9⟩⟩
  have o10 := ok_scores (P := l.prog) (w := w) (base := base) F10 T o0 b0
  have d10 : Cal _ _ _ _ _ _ _ _ := ⟨⟨f10, _, _, o10, PySem.W.mg_of X G a10, k10, b10⟩⟩
  have o11 := ok_score_list (P := l.prog) (w := w) (base := base) F11 T o0 b0
  have d11 : Cal _ _ _ _ _ _ _ _ := ⟨⟨f11, _, _, o11, PySem.W.mg_of X G a11, k11, b11⟩⟩
  have o12 := ok__law_spring (P := l.prog) (w := w) (base := base) F12 T 
  have d12 : Cal _ _ _ _ _ _ _ _ := ⟨⟨f12, _, _, o12, PySem.W.mg_of X G a12, k12, b12⟩⟩
  have o13 := ok__law_draw (P := l.prog) (w := w) (base := base) F13 T 
  have d13 : Cal _ _ _ _ _ _ _ _ := ⟨⟨f13, _, _, o13, PySem.W.mg_of X G a13, k13, b13⟩⟩
  have o14 := ok__law_pick (P := l.prog) (w := w) (base := base) F14 T d13
  have d14 : Cal _ _ _ _ _ _ _ _ := ⟨⟨f14, _, _, o14, PySem.W.mg_of X G a14, k14, b14⟩⟩
  have o15 := ok__law_mixed (P := l.prog) (w := w) (base := base) F15 T d13
  have d15 : Cal _ _ _ _ _ _ _ _ := ⟨⟨f15, _, _, o15, PySem.W.mg_of X G a15, k15, b15⟩⟩
  have o16 := ok__law_same (P := l.prog) (w := w) (base := base) F16 T  (PySem.W.mg_of X G a16) k16 b16 6
  have d16 : Cal _ _ _ _ _ _ _ _ := ⟨⟨f16, _, _, o16, PySem.W.mg_of X G a16, k16, b16⟩⟩
  have o17 := ok__law_b_names (P := l.prog) (w := w) (base := base) F17 T d13 d14
  have d17 : Cal _ _ _ _ _ _ _ _ := ⟨⟨f17, _, _, o17, PySem.W.mg_of X G a17, k17, b17⟩⟩
  have o18 := ok__law_b_shape (P := l.prog) (w := w) (base := base) F18 T d13 d14
  have d18 : Cal _ _ _ _ _ _ _ _ := ⟨⟨f18, _, _, o18, PySem.W.mg_of X G a18, k18, b18⟩⟩
  have o19 := ok__law_b_drawn (P := l.prog) (w := w) (base := base) F19 T d17 d18 d15
  have d19 : Cal _ _ _ _ _ _ _ _ := ⟨⟨f19, _, _, o19, PySem.W.mg_of X G a19, k19, b19⟩⟩
  have o20 := ok__law_b_rows (P := l.prog) (w := w) (base := base) F20 T 
  have d20 : Cal _ _ _ _ _ _ _ _ := ⟨⟨f20, _, _, o20, PySem.W.mg_of X G a20, k20, b20⟩⟩
  exact ok_law F21 T q6 d19 d20 d14 d16 d12 m9 d11 ⟨⟨f11, _, _, _, o11, PySem.W.mg_of X G a11, k11, fun_kbinds F11 (by decide) fun _ _ _ _ _ _ ws hl => match ws, hl with | [], h => by cases h | _ :: _, _ => rfl⟩⟩ d10 ⟨⟨f10, _, _, _, o10, PySem.W.mg_of X G a10, k10, fun_kbinds F10 (by decide) fun _ _ _ _ _ _ ws hl => match ws, hl with | [], h => by cases h | _ :: _, _ => rfl⟩⟩ hfin
theorem walk {l : PySem.W.OpenLaw} {q : Program} {loose : List Str} {XP : (Str → Option Value) → Heap → Prop} {YP : World → Heap → Prop} {d : DefRec} {K : Params → PySem.W.Frag} (hn : l.most = some 63) (hdf : d.params.defaults = [])
    (hY : ∀ (w : World) (h : Heap), YP w h → (K w.params).In h)
    (F : ∀ (w : World) (mg : Str → Option Value) (fa : Addr) (h : Heap), (K w.params).In h → h.Ns mainGlobals mg → mg d.name = some (.ref fa) →
      ∃ fd : FuncData, (∀ (s : Shared) (u : Value), BindsTo s fd ⟨[u], []⟩ [("script", u)]) ∧ ∀ base : Heap, (K w.params).In base → base.Ns mainGlobals mg → FnOk l.prog w (K w.params) mg base CX0 7 fa fd ["script"] (spL (K w.params))) :
    PySem.W.WalkO q loose XP YP l.row.toRowW d [] (fun f vs => PySem.call f vs) :=
  L2.walk_of (n := 63) (k := 7) (x := "script") (CX := fun _ => CX0) (sp := fun w => spL (K w.params)) hn (by decide) hdf ⟨rfl, by decide, by decide⟩ hY F (fun _ H a ns hl hO hS => ⟨a, ns, rfl, hS, hl, hO, fun _ => rfl⟩) fun _ _ _ _ _ z => z
end Al.allplay_k04_whole_scores_told
open PySem PySem.W PyProof.Rows
set_option maxRecDepth 100000 in
set_option maxHeartbeats 0 in
theorem PySem.Challenge.cw_allplay_k04_whole_scores_told_holds : PySem.Challenge.rw_allplay_k04_whole_scores_told.Holds := by
  w_on; o_law; k_head; (case hw => w_witness2)
  k_fill
  refine Al.allplay_k04_whole_scores_told.walk (l := PySem.Challenge.rw_allplay_k04_whole_scores_told) rfl rfl (fun w h Y => PySem.W.kIn_of Y) ?F
  case F =>
    intro w mg fa h KX G hmg
    refine' Al.allplay_k04_whole_scores_told.all_mk KX G hmg ?aC ?a0 ?i0 ?l0 ?c0 ?k0 ?a1 ?l1 ?c1 ?k1 ?a2 ?l2 ?c2 ?k2 ?a3 ?l3 ?c3 ?k3 ?a4 ?l4 ?c4 ?k4 ?a5 ?l5 ?c5 ?k5 ?a6 ?i6 ?l6 ?c6 ?k6 ?a7 ?i7 ?l7 ?c7 ?k7 ?a8 ?i8 ?l8 ?c8 ?k8 ?a9 ?i9 ?l9 ?c9 ?k9 ?a10 ?l10 ?c10 ?k10 ?a11 ?l11 ?c11 ?k11 ?a12 ?l12 ?c12 ?k12 ?a13 ?l13 ?c13 ?k13 ?a14 ?l14 ?c14 ?k14 ?a15 ?l15 ?c15 ?k15 ?a16 ?l16 ?c16 ?k16 ?a17 ?l17 ?c17 ?k17 ?a18 ?l18 ?c18 ?k18 ?a19 ?l19 ?c19 ?k19 ?a20 ?l20 ?c20 ?k20 ?a21 ?l21 ?c21 ?k21 ?pg ?hd ?po ?sa ?mk ?kc ?n_rows ?z_all ?z_bool ?z_dict ?z_enumerate ?z_int ?z_isinstance ?z_iter ?z_len ?z_list ?z_max ?z_min ?z_range ?z_sorted ?z_str ?z_sum ?z_tuple ?z_zip ?c_LETTERS ?c_MANY ?c_SIGNS
    (case aC => k_is); (case a0 => k_is); (case i0 => k_is); (case l0 => k_is); (case c0 => k_is); (case k0 => k_is)
    (case a1 => k_is); (case l1 => k_is); (case c1 => k_is); (case k1 => k_is); (case a2 => k_is); (case l2 => k_is)
    (case c2 => k_is); (case k2 => k_is); (case a3 => k_is); (case l3 => k_is); (case c3 => k_is); (case k3 => k_is)
    (case a4 => k_is); (case l4 => k_is); (case c4 => k_is); (case k4 => k_is); (case a5 => k_is); (case l5 => k_is)
    (case c5 => k_is); (case k5 => k_is); (case a6 => k_is); (case i6 => k_is); (case l6 => k_is); (case c6 => k_is)
    (case k6 => k_is); (case a7 => k_is); (case i7 => k_is); (case l7 => k_is); (case c7 => k_is); (case k7 => k_is)
    (case a8 => k_is); (case i8 => k_is); (case l8 => k_is); (case c8 => k_is); (case k8 => k_is); (case a9 => k_is)
    (case i9 => k_is); (case l9 => k_is); (case c9 => k_is); (case k9 => k_is); (case a10 => k_is); (case l10 => k_is)
    (case c10 => k_is); (case k10 => k_is); (case a11 => k_is); (case l11 => k_is); (case c11 => k_is); (case k11 => k_is)
    (case a12 => k_is); (case l12 => k_is); (case c12 => k_is); (case k12 => k_is); (case a13 => k_is); (case l13 => k_is)
    (case c13 => k_is); (case k13 => k_is); (case a14 => k_is); (case l14 => k_is); (case c14 => k_is); (case k14 => k_is)
    (case a15 => k_is); (case l15 => k_is); (case c15 => k_is); (case k15 => k_is); (case a16 => k_is); (case l16 => k_is)
    (case c16 => k_is); (case k16 => k_is); (case a17 => k_is); (case l17 => k_is); (case c17 => k_is); (case k17 => k_is)
    (case a18 => k_is); (case l18 => k_is); (case c18 => k_is); (case k18 => k_is); (case a19 => k_is); (case l19 => k_is)
    (case c19 => k_is); (case k19 => k_is); (case a20 => k_is); (case l20 => k_is); (case c20 => k_is); (case k20 => k_is)
    (case a21 => k_is); (case l21 => k_is); (case c21 => k_is); (case k21 => k_is); (case pg => k_is); (case hd => k_is)
    (case po => k_is); (case sa => k_is); (case mk => k_is); (case kc => k_is); (case n_rows => k_is); (case z_all => k_is)
    (case z_bool => k_is); (case z_dict => k_is); (case z_enumerate => k_is); (case z_int => k_is); (case z_isinstance => k_is); (case z_iter => k_is)
    (case z_len => k_is); (case z_list => k_is); (case z_max => k_is); (case z_min => k_is); (case z_range => k_is); (case z_sorted => k_is)
    (case z_str => k_is); (case z_sum => k_is); (case z_tuple => k_is); (case z_zip => k_is); (case c_LETTERS => k_is); (case c_MANY => k_is)
    (case c_SIGNS => k_is)
#print axioms PySem.Challenge.cw_allplay_k04_whole_scores_told_holds

