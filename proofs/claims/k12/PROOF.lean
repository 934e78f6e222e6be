import PyProof.Rows.All
import Wide.All
import OpenK.AllK
import Wide.FinOn
import HandS.ForMost
import HandS.Exc
import HandS.Wide
import HandS.EndBits
import HandS.Lambda
import HandS.ExcIs
import HandS.IsInst
import HandS.Style
import HandS.TupAny
import HandS.TupMul
import HandS.Gcd
import HandS.Flow
import HandS.Zip
import KE.GoesNew
import HandS.WordsExc
import HandS.Star
import HandS.Dict
import HandS.RaiseMore
import PyProof.ReprRoads
import KE.KLam
import HandS.ExcValue
import HandS.ExcOwn
import HandS.ExcField
import HandS.EndTab
import PyProof.Rows.TupDisplay
import PyProof.Rows.RegStrFacts
import KE.KExcSuper
import HandS.ExcInit
import KE.KMathGC
import HandS.OwnEq
import PyProof.FitsBits
import PyProof.InstEq
import HandS.SortInts
import KE.KRevSl
import HandS.Conv
import HandS.NoneIn
import PySem.Challenge.RW_ringstream_k12_whole_least_points
set_option Elab.async false
set_option linter.all false
set_option maxRecDepth 100000
set_option maxHeartbeats 2000000
namespace Dv
open PySem PySem.Spec PyProof.Rows L2

/-- a value as a tree, no address in it; drw: the draw -/
inductive D where
  | non | bl (b : Bool) | int (i : Int) | str (x : Str)
  | tup (ds : List D) | lst (ds : List D) | ro (ds : List D)
  | obj (C : Str) (fs : List (Str × D))
  | fn (x : Str)
  | typ (n : String)
  | drw
  | opq (n : Nat)
  | dct
  | flt (x : UInt64)
  | lam (i : Nat) (tk : List (Str × Addr))
  | xcp (C : Str) (fs : List (Str × D))

/-- a lambda's text -/
structure LamT where
  q : Str
  ps : Arguments
  body : Expr
  sc : Scope
abbrev lamOb (L : LamT) (tk : List (Str × Addr)) (pm : Value) (c' : Addr) (ctv : Value) : Obj := PySem.W.kla_obj "<lambda>" L.q L.ps L.body L.sc (cloFrom tk L.sc.names []) pm c' ctv
/-- an exception's object -/
def excO (a : Addr) (cls : Value) (d : Option Addr) : HO := .ext fun h => ∃ (o : Obj) (vs : Array Value), h.get? a = some o ∧ o.cls = cls ∧ o.dict = d ∧ o.data = .fields vs
/-- what is never written -/
def Kp (o : HO) : Prop := (∃ φ, o = .ext φ) ∨ ∃ ob u, o = .frz ob u
/-- what is fixed through a law's run -/
structure Cn (K : PySem.W.Frag) where
  ca : Str → Addr
  dd : Addr
  mu : Addr → Prop
  inv : Hp → Prop
  lm : Nat → LamT
  loc : ∀ H H' : Hp, (∀ a o, (mu a ∨ Kp o) → H a = some o → H' a = some o) → (∀ a ob u, H' a = some (.frz ob u) → H a = some (.frz ob u)) → inv H → inv H'
  dm : ∀ H a, inv H → mu a → H a ≠ none

/-- what is known of an own class -/
structure OwnC (K : PySem.W.Frag) (C : Addr) (fs : List Str) : Prop where
  cl : Cls K C
  ha : PySem.W.findIn K (.ref C) "__class__" = some (some (.builtin "object.__class__"))
  hn : PySem.W.specialIn K (.builtin "object.__class__") "__get__" = some (some (.builtin "getset_descriptor.__get__"))
  htk : PySem.W.takesIn K (.builtin "object.__class__") = some true
  hm : PySem.W.mroIn K C (.type "object") = some true
  na : ∀ f ∈ fs, NoAttr K C f
section
variable {K : PySem.W.Frag} (c : Cn K) (B : Hp)
mutual
inductive Is : V → D → Prop
  | non : Is .non .non
  | bl (b : Bool) : Is (.bl b) (.bl b)
  | int (i : Int) : Is (.int i) (.int i)
  | str (x : Str) : Is (.str x) (.str x)
  | tup {a : Addr} {vs : List V} {ds : List D} : B a = some (.tup vs) → IsL vs ds → Is (.ref a) (.tup ds)
  | lst {a : Addr} {vs : List V} {ds : List D} : B a = some (.lst vs) → IsL vs ds → Is (.ref a) (.lst ds)
  | ro {a : Addr} {vs : List V} {ds : List D} : SqL K B a vs → IsL vs ds → Is (.ref a) (.ro ds)
  | obj {a dx : Addr} {C : Str} {fs : List (Str × V)} {gs : List (Str × D)} : B a = some (.ins (c.ca C) dx fs) → OwnC K (c.ca C) (gs.map (·.1)) → IsF fs gs → Is (.ref a) (.obj C gs)
  | fn (x : Str) : Is (.ref (c.ca x)) (.fn x)
  | typ (n : String) : Is (.ty n) (.typ n)
  | drw : Is (.ref c.dd) .drw
  | opq (n : Nat) : Is (.ref n) (.opq n)
  | dct {a : Addr} {kvs : List (Key × V)} : B a = some (.dK kvs) → Is (.ref a) .dct
  | dctT {a : Addr} {kvs : List (List Key × V)} : B a = some (.dT kvs) → Is (.ref a) .dct
  | flt (x : UInt64) : Is (.flt x) (.flt x)
  | lam {i : Nat} {tk : List (Str × Addr)} {f c' : Addr} {pm ctv : Value} : B f = some (.frz (lamOb (c.lm i) tk pm c' ctv) (.own 0)) → Is (.ref f) (.lam i tk)
  | xcp0 {a : Addr} {C : Str} : B a = some (excO a (.ref (c.ca C)) none) → L2.ExcC K (c.ca C) → Is (.ref a) (.xcp C [])
  | xcp1 {a dx : Addr} {C : Str} {fs : List (Str × V)} {gs : List (Str × D)} : B a = some (excO a (.ref (c.ca C)) (some dx)) → B dx = some (.xd fs) → L2.ExcC K (c.ca C) → IsF fs gs → Is (.ref a) (.xcp C gs)
inductive IsL : List V → List D → Prop
  | nil : IsL [] []
  | cons {v : V} {d : D} {vs : List V} {ds : List D} : Is v d → IsL vs ds → IsL (v :: vs) (d :: ds)
inductive IsF : List (Str × V) → List (Str × D) → Prop
  | nil : IsF [] []
  | cons {x : Str} {v : V} {d : D} {vs : List (Str × V)} {ds : List (Str × D)} : Is v d → IsF vs ds → IsF ((x, v) :: vs) ((x, d) :: ds)
end
end

theorem Same.rd {H H' : Hp} (e : Same H H') {a : Addr} {u : HO} (h : Rd H a u) : Rd H' a u := by
  rcases h with h | ⟨o, h⟩
  · exact .inl (e _ _ h)
  · exact .inr ⟨o, e _ _ h⟩
theorem Same.l {K : PySem.W.Frag} {H H' : Hp} {a : Addr} {xs : List V} (e : Same H H') (h : SqL K H a xs) : SqL K H' a xs := h.elim (fun h => .inl (Same.rd e h)) .inr
theorem Same.t {K : PySem.W.Frag} {H H' : Hp} {a : Addr} {xs : List V} (e : Same H H') (h : SqT K H a xs) : SqT K H' a xs := h.elim (fun h => .inl (Same.rd e h)) .inr
theorem Same.new {H : Hp} {p : Addr} {o : HO} (h : H p = none) : Same H (upd H p o) := fun a u e => by
  rw [upd_ne (ne_of_none e h)]
  exact e

section
variable {K : PySem.W.Frag} {c : Cn K} {B B' : Hp}
mutual
theorem Is.mono (e : Same B B') : ∀ {v : V} {d : D}, Is c B v d → Is c B' v d
  | _, _, .non => .non
  | _, _, .bl b => .bl b
  | _, _, .int i => .int i
  | _, _, .str x => .str x
  | _, _, .tup h r => .tup (e _ _ h) (IsL.mono e r)
  | _, _, .lst h r => .lst (e _ _ h) (IsL.mono e r)
  | _, _, .ro h r => .ro (Same.l e h) (IsL.mono e r)
  | _, _, .obj h o r => .obj (e _ _ h) o (IsF.mono e r)
  | _, _, .fn x => .fn x
  | _, _, .typ n => .typ n
  | _, _, .drw => .drw
  | _, _, .opq n => .opq n
  | _, _, .dct h => .dct (e _ _ h)
  | _, _, .dctT h => .dctT (e _ _ h)
  | _, _, .flt x => .flt x
  | _, _, .lam h => .lam (e _ _ h)
  | _, _, .xcp0 h x => .xcp0 (e _ _ h) x
  | _, _, .xcp1 h q x r => .xcp1 (e _ _ h) (e _ _ q) x (IsF.mono e r)
theorem IsL.mono (e : Same B B') : ∀ {vs : List V} {ds : List D}, IsL c B vs ds → IsL c B' vs ds
  | _, _, .nil => .nil
  | _, _, .cons r t => .cons (Is.mono e r) (IsL.mono e t)
theorem IsF.mono (e : Same B B') : ∀ {vs : List (Str × V)} {ds : List (Str × D)}, IsF c B vs ds → IsF c B' vs ds
  | _, _, .nil => .nil
  | _, _, .cons r t => .cons (Is.mono e r) (IsF.mono e t)
end
theorem IsL.length : ∀ {vs : List V} {ds : List D}, IsL c B vs ds → vs.length = ds.length
  | _, _, .nil => rfl
  | _, _, .cons _ t => congrArg (· + 1) (IsL.length t)
theorem IsL.get : ∀ {vs : List V} {ds : List D} {i : Nat} {d : D}, IsL c B vs ds → ds[i]? = some d → ∃ v, vs[i]? = some v ∧ Is c B v d
  | _, _, 0, _, .cons r _, e => ⟨_, rfl, (Option.some.inj e) ▸ r⟩
  | _, _, i + 1, d, .cons _ t, e => IsL.get (i := i) (d := d) t e
theorem IsL.get' : ∀ {vs : List V} {ds : List D} {i : Nat} {v : V}, IsL c B vs ds → vs[i]? = some v → ∃ d, ds[i]? = some d ∧ Is c B v d
  | _, _, 0, _, .cons r _, e => ⟨_, rfl, (Option.some.inj e) ▸ r⟩
  | _, _, i + 1, v, .cons _ t, e => IsL.get' (i := i) (v := v) t e
theorem IsL.append : ∀ {vs ws : List V} {ds es : List D}, IsL c B vs ds → IsL c B ws es → IsL c B (vs ++ ws) (ds ++ es)
  | _, _, _, _, .nil, s => s
  | _, _, _, _, .cons r t, s => .cons r (IsL.append t s)
theorem IsL.take : ∀ {vs : List V} {ds : List D} (n : Nat), IsL c B vs ds → IsL c B (vs.take n) (ds.take n)
  | _, _, 0, _ => .nil
  | _, _, _ + 1, .nil => .nil
  | _, _, n + 1, .cons r t => .cons r (IsL.take n t)
theorem IsL.drop : ∀ {vs : List V} {ds : List D} (n : Nat), IsL c B vs ds → IsL c B (vs.drop n) (ds.drop n)
  | _, _, 0, r => r
  | _, _, _ + 1, .nil => .nil
  | _, _, n + 1, .cons _ t => IsL.drop n t
theorem IsL.reverse {vs : List V} {ds : List D} (h : IsL c B vs ds) : IsL c B vs.reverse ds.reverse := by
  induction vs generalizing ds with
  | nil => cases h; exact .nil
  | cons v vs ih =>
    cases h with
    | cons r t =>
      rw [List.reverse_cons, List.reverse_cons]
      exact (ih t).append (.cons r .nil)
theorem IsL.erase : ∀ {vs : List V} {ds : List D} (n : Nat), IsL c B vs ds → IsL c B (vs.eraseIdx n) (ds.eraseIdx n)
  | _, _, _, .nil => by simpa using IsL.nil
  | _, _, 0, .cons _ t => t
  | _, _, n + 1, .cons r t => .cons r (IsL.erase n t)
theorem IsL.set {x : V} {d : D} (q : Is c B x d) : ∀ {vs : List V} {ds : List D} (n : Nat), IsL c B vs ds → IsL c B (vs.set n x) (ds.set n d)
  | _, _, _, .nil => by simpa using IsL.nil
  | _, _, 0, .cons _ t => .cons q t
  | _, _, n + 1, .cons r t => .cons r (IsL.set q n t)
theorem IsF.lookup {x : Str} : ∀ {fs : List (Str × V)} {gs : List (Str × D)} {d : D}, IsF c B fs gs → gs.lookup x = some d → ∃ v, fs.lookup x = some v ∧ Is c B v d
  | _, _, _, .nil, e => by cases e
  | _, _, d, .cons (x := y) r t, e => by
    by_cases h : (x == y) = true
    · rw [List.lookup_cons] at e ⊢
      rw [h] at e ⊢
      exact ⟨_, rfl, Option.some.inj e ▸ r⟩
    · have h' : (x == y) = false := by simpa using h
      rw [List.lookup_cons] at e ⊢
      rw [h'] at e ⊢
      exact IsF.lookup t e
end

/-- no list in it: what it is told by does not lean on a list's address -/
def D.lf : D → Bool
  | .tup ds => lfL ds
  | .lst _ => false
  | .ro _ => false
  | .obj _ fs => lfF fs
  | .xcp _ fs => lfF fs
  | _ => true
where
  lfL : List D → Bool
    | [] => true
    | d :: ds => D.lf d && lfL ds
  lfF : List (Str × D) → Bool
    | [] => true
    | (_, d) :: ds => D.lf d && lfF ds

section
variable {K : PySem.W.Frag} {c : Cn K} {B B' : Hp}
theorem Rd.but {a : Addr} {xs : List V} (e : ∀ a o, B a = some o → (∀ xs, o ≠ .lst xs) → B' a = some o) (h : Rd B a (.tup xs)) : Rd B' a (.tup xs) := by
  rcases h with h | ⟨o, h⟩
  · exact .inl (e _ _ h fun _ z => nomatch z)
  · exact .inr ⟨o, e _ _ h fun _ z => nomatch z⟩
mutual
theorem Is.but (e : ∀ a o, B a = some o → (∀ xs, o ≠ .lst xs) → B' a = some o) : ∀ {v : V} {d : D}, Is c B v d → d.lf = true → Is c B' v d
  | _, _, .non, _ => .non
  | _, _, .bl b, _ => .bl b
  | _, _, .int i, _ => .int i
  | _, _, .str x, _ => .str x
  | _, _, .tup h r, f => .tup (e _ _ h fun _ z => nomatch z) (IsL.but e r (by simpa [D.lf] using f))
  | _, _, .lst h r, f => by simp [D.lf] at f
  | _, _, .ro h r, f => by simp [D.lf] at f
  | _, _, .obj h o r, f => .obj (e _ _ h fun _ z => nomatch z) o (IsF.but e r (by simpa [D.lf] using f))
  | _, _, .fn x, _ => .fn x
  | _, _, .typ n, _ => .typ n
  | _, _, .drw, _ => .drw
  | _, _, .opq n, _ => .opq n
  | _, _, .dct h, _ => .dct (e _ _ h fun _ z => nomatch z)
  | _, _, .dctT h, _ => .dctT (e _ _ h fun _ z => nomatch z)
  | _, _, .flt x, _ => .flt x
  | _, _, .lam h, _ => .lam (e _ _ h fun _ z => nomatch z)
  | _, _, .xcp0 h x, _ => .xcp0 (e _ _ h fun _ z => nomatch z) x
  | _, _, .xcp1 h q x r, f => .xcp1 (e _ _ h fun _ z => nomatch z) (e _ _ q fun _ z => nomatch z) x (IsF.but e r (by simpa [D.lf] using f))
theorem IsL.but (e : ∀ a o, B a = some o → (∀ xs, o ≠ .lst xs) → B' a = some o) : ∀ {vs : List V} {ds : List D}, IsL c B vs ds → D.lf.lfL ds = true → IsL c B' vs ds
  | _, _, .nil, _ => .nil
  | _, _, .cons r t, f => by
    simp [D.lf.lfL] at f
    exact .cons (Is.but e r f.1) (IsL.but e t f.2)
theorem IsF.but (e : ∀ a o, B a = some o → (∀ xs, o ≠ .lst xs) → B' a = some o) : ∀ {vs : List (Str × V)} {ds : List (Str × D)}, IsF c B vs ds → D.lf.lfF ds = true → IsF c B' vs ds
  | _, _, .nil, _ => .nil
  | _, _, .cons r t, f => by
    simp [D.lf.lfF] at f
    exact .cons (Is.but e r f.1) (IsF.but e t f.2)
end
end

/-- B: what stands for good; H: all that is tracked -/
structure Pre {K : PySem.W.Frag} (c : Cn K) (B H : Hp) : Prop where
  bh : Same B H
  inv : c.inv H
  av : ∀ a, c.mu a → B a = none
structure Step {K : PySem.W.Frag} (c : Cn K) (B H B' H' : Hp) : Prop where
  b : Same B B'
  bh : Same B' H'
  dom : ∀ a, H a ≠ none → B' a = B a
  out : ∀ a o, H a = some o → ¬ c.mu a → (∀ ps, o ≠ .tbl ps) → H' a = some o
  th : ∀ a, H a ≠ none → H' a ≠ none
  inv : c.inv H'
  av : ∀ a, c.mu a → B' a = none
section
variable {K : PySem.W.Frag} {c : Cn K} {B H B1 H1 B2 H2 : Hp}
theorem Step.pre (s : Step c B H B1 H1) : Pre c B1 H1 := ⟨s.bh, s.inv, s.av⟩
theorem Step.refl (p : Pre c B H) : Step c B H B H := ⟨fun _ _ h => h, p.bh, fun _ _ => rfl, fun _ _ h _ _ => h, fun _ h => h, p.inv, p.av⟩
theorem Step.trans (s : Step c B H B1 H1) (t : Step c B1 H1 B2 H2) : Step c B H B2 H2 :=
  ⟨fun a o h => t.b a o (s.b a o h), t.bh, fun a h => (t.dom a (s.th a h)).trans (s.dom a h), fun a o h n z => t.out a o (s.out a o h n z) n z, fun a h => t.th a (s.th a h), t.inv, t.av⟩
theorem Pre.nmu (p : Pre c B H) {a : Addr} (h : H a = none) : ¬ c.mu a := fun m => c.dm H a p.inv m h
theorem Pre.bnone (p : Pre c B H) {a : Addr} (h : H a = none) : B a = none := by
  cases q : B a with
  | none => rfl
  | some o => rw [p.bh a o q] at h; cases h
/-- a new thing is laid, not for good -/
theorem Step.lay (p : Pre c B H) {a : Addr} (h : H a = none) (o : HO) (nf : ∀ ob u, o ≠ .frz ob u := by intro _ _ z; cases z) : Step c B H B (upd H a o) :=
  ⟨fun _ _ h => h, fun b u e => Same.new h b u (p.bh b u e), fun _ _ => rfl, fun b u e _ _ => Same.new h b u e, fun b e => by
    by_cases z : b = a
    · rw [z, upd_same]; exact fun q => nomatch q
    · rw [upd_ne z]; exact e, c.loc _ _ (fun b u m e => Same.new h b u e) (fun b ob u e => by
    by_cases z : b = a
    · rw [z, upd_same] at e; exact absurd (Option.some.inj e) (nf ob u)
    · rw [upd_ne z] at e; exact e) p.inv, p.av⟩
/-- what was laid behind the start is taken for good -/
theorem Step.keep (s : Step c B H B1 H1) {a : Addr} {o : HO} (h : H a = none) (p : Pre c B H) (h1 : H1 a = some o) (hb : B1 a = none) : Step c B H (upd B1 a o) H1 := by
  refine ⟨fun b u e => ?_, fun b u e => ?_, fun b e => ?_, s.out, s.th, s.inv, fun b m => ?_⟩
  · exact Same.new hb b u (s.b b u e)
  · by_cases z : b = a
    · rw [z, upd_same] at e; rw [z, h1, ← Option.some.inj e]
    · rw [upd_ne z] at e; exact s.bh b u e
  · rw [upd_ne (fun z => e (by rw [z]; exact h))]; exact s.dom b e
  · rw [upd_ne (fun z => p.nmu h (by rw [← z]; exact m))]; exact s.av b m
/-- .. both at once -/
theorem Step.new (p : Pre c B H) {a : Addr} (h : H a = none) (o : HO) (nf : ∀ ob u, o ≠ .frz ob u := by intro _ _ z; cases z) : Step c B H (upd B a o) (upd H a o) :=
  (Step.lay p h o nf).keep h p upd_same (p.bnone h)
end

/-! ### results -/
inductive Rv where
  | val (d : D)
  | new (ds : List D)
def frz : Rv → D
  | .val d => d
  | .new ds => .lst ds
structure Exn where
  C : Str
  fs : List (Str × D)
def RvOk {K : PySem.W.Frag} (c : Cn K) (H B' H' : Hp) (v : V) : Rv → Prop
  | .val d => Is c B' v d
  | .new ds => ∃ a vs, v = .ref a ∧ H' a = some (.lst vs) ∧ IsL c B' vs ds ∧ B' a = none ∧ H a = none
def XOk {K : PySem.W.Frag} (c : Cn K) (B' H' : Hp) (cls : Value) (d : Option Addr) (x : Exn) : Prop :=
  cls = .ref (c.ca x.C) ∧ ((x.fs = [] ∧ d = none) ∨ ∃ dx gs, d = some dx ∧ B' dx = some (.xd gs) ∧ IsF c B' gs x.fs)
theorem RvOk.freeze {K : PySem.W.Frag} {c : Cn K} {B H B' H' : Hp} {v : V} {r : Rv} (p : Pre c B H) (s : Step c B H B' H') (h : RvOk c H B' H' v r) : ∃ B'', Step c B H B'' H' ∧ Same B' B'' ∧ Is c B'' v (frz r) := by
  cases r with
  | val d => exact ⟨B', s, fun _ _ h => h, h⟩
  | new ds =>
    obtain ⟨a, vs, rfl, h1, h2, h3, h4⟩ := h
    exact ⟨_, s.keep h4 p h1 h3, Same.new h3, .lst upd_same (h2.mono (Same.new h3))⟩

theorem rv_val {K : PySem.W.Frag} {c : Cn K} {H B' H' : Hp} {v : V} {d : D} (h : Is c B' v d) : RvOk c H B' H' v (.val d) := h
theorem rv_new {K : PySem.W.Frag} {c : Cn K} {H B' H' : Hp} {a : Addr} {vs : List V} {ds : List D} (h1 : H' a = some (.lst vs)) (h2 : IsL c B' vs ds) (h3 : B' a = none) (h4 : H a = none) : RvOk c H B' H' (.ref a) (.new ds) := ⟨a, vs, rfl, h1, h2, h3, h4⟩
/-! ### expressions -/
abbrev View := List (Option D)
abbrev DV := View → (D → Prop) → (Exn → Prop) → Prop
abbrev DR := View → (Rv → Prop) → (Exn → Prop) → Prop
abbrev DB := View → (Bool → Prop) → (Exn → Prop) → Prop
abbrev DL := View → (List D → Prop) → (Exn → Prop) → Prop
def Mn {α : Type} (f : View → (α → Prop) → (Exn → Prop) → Prop) : Prop := ∀ ρ (k k' : α → Prop) (E E' : Exn → Prop), (∀ d, k d → k' d) → (∀ x, E x → E' x) → f ρ k E → f ρ k' E'
def RepV {K : PySem.W.Frag} (c : Cn K) (B : Hp) (σ : L2.St) (ρ : View) : Prop := ρ.length = σ.length ∧ ∀ (i : Nat) (d : D), ρ[i]? = some (some d) → ∃ v, σ[i]? = some (some v) ∧ Is c B v d
theorem RepV.mono {K : PySem.W.Frag} {c : Cn K} {B B' : Hp} {σ : L2.St} {ρ : View} (e : Same B B') (r : RepV c B σ ρ) : RepV c B' σ ρ := ⟨r.1, fun i d h => let ⟨v, h1, h2⟩ := r.2 i d h; ⟨v, h1, h2.mono e⟩⟩
def XK {K : PySem.W.Frag} (c : Cn K) (W : WX) (B H : Hp) : Exn → Prop := fun x => ∀ cls d σ' B' H', Step c B H B' H' → XOk c B' H' cls d x → W cls d σ' H'
theorem XK.step {K : PySem.W.Frag} {c : Cn K} {W : WX} {B H B1 H1 : Hp} (s : Step c B H B1 H1) {x : Exn} (h : XK c W B H x) : XK c W B1 H1 x := fun cls d σ' B' H' t xo => h cls d σ' B' H' (s.trans t) xo
def tV {K : PySem.W.Frag} (c : Cn K) (W : WX) (f : DV) : TE := fun σ H Q => ∃ B ρ, Pre c B H ∧ RepV c B σ ρ ∧ f ρ (fun d => ∀ v B' H', Step c B H B' H' → Is c B' v d → Q v H') (XK c W B H)
def tR {K : PySem.W.Frag} (c : Cn K) (W : WX) (f : DR) : TE := fun σ H Q => ∃ B ρ, Pre c B H ∧ RepV c B σ ρ ∧ f ρ (fun r => ∀ v B' H', Step c B H B' H' → RvOk c H B' H' v r → Q v H') (XK c W B H)
def tT {K : PySem.W.Frag} (c : Cn K) (W : WX) (f : DB) : TT := fun σ H Q => ∃ B ρ, Pre c B H ∧ RepV c B σ ρ ∧ f ρ (fun b => ∀ B' H', Step c B H B' H' → Q b H') (XK c W B H)
def tL {K : PySem.W.Frag} (c : Cn K) (W : WX) (f : DL) : TA := fun σ H Q => ∃ B ρ, Pre c B H ∧ RepV c B σ ρ ∧ f ρ (fun ds => ∀ vs B' H', Step c B H B' H' → IsL c B' vs ds → Q vs H') (XK c W B H)
structure EV (X : Cx) (c : Cn X.K) (W : WX) (e : Expr) (f : DV) : Prop where
  mn : Mn f
  pe : PE X e (tV c W f)
structure ER (X : Cx) (c : Cn X.K) (W : WX) (e : Expr) (f : DR) : Prop where
  mn : Mn f
  pe : PE X e (tR c W f)
structure EB (X : Cx) (c : Cn X.K) (W : WX) (e : Expr) (f : DB) : Prop where
  mn : Mn f
  pt : PT X e (tT c W f)
structure EW (X : Cx) (c : Cn X.K) (W : WX) (e : Expr) (f : DB) : Prop where
  mn : Mn f
  pw : PW X e (tT c W f)
structure EA (X : Cx) (c : Cn X.K) (W : WX) (es : List Expr) (f : DL) : Prop where
  mn : Mn f
  len : ∀ ρ k E, f ρ k E → f ρ (fun ds => ds.length = es.length ∧ k ds) E
  pa : PA X es (tL c W f)
theorem wkE {X : Cx} {e : Expr} {t t' : TE} (p : PE X e t) (w : ∀ σ H Q, t' σ H Q → t σ H Q) : PE X e t' := ⟨fun pins s σ H Q I h => p.run pins s σ H Q I (w _ _ _ h)⟩
theorem wkT {X : Cx} {e : Expr} {t t' : TT} (p : PT X e t) (w : ∀ σ H Q, t' σ H Q → t σ H Q) : PT X e t' := ⟨fun pins s σ H Q I h => p.run pins s σ H Q I (w _ _ _ h)⟩
theorem wkW {X : Cx} {e : Expr} {t t' : TT} (p : PW X e t) (w : ∀ σ H Q, t' σ H Q → t σ H Q) : PW X e t' := ⟨fun wh pins s σ H Q I h => p.run wh pins s σ H Q I (w _ _ _ h)⟩
theorem wkA {X : Cx} {e : List Expr} {t t' : TA} (p : PA X e t) (w : ∀ σ H Q, t' σ H Q → t σ H Q) : PA X e t' := ⟨fun pos pins s σ H Q I h => p.run pos pins s σ H Q I (w _ _ _ h)⟩
theorem wkS {X : Cx} {e : Stmt} {t t' : TS} (p : PS X e t) (w : ∀ D σ H, t' D σ H → t D σ H) : PS X e t' := ⟨fun pins s σ H D I h => p.run pins s σ H D I (w _ _ _ h)⟩
theorem wkSs {X : Cx} {e : List Stmt} {t t' : TS} (p : PSs X e t) (w : ∀ D σ H, t' D σ H → t D σ H) : PSs X e t' := ⟨fun pins s σ H D I h => p.run pins s σ H D I (w _ _ _ h)⟩

section
variable {X : Cx} {c : Cn X.K} {W : WX} {e a b : Expr} {es : List Expr} {pos : Pos} {f g : DV}
def vR (f : DR) : DV := fun ρ k E => f ρ (fun r => k (frz r)) E
def rV (f : DV) : DR := fun ρ k E => f ρ (fun d => k (.val d)) E
theorem ER.v {f : DR} (h : ER X c W e f) : EV X c W e (vR f) := by
  refine ⟨fun ρ k k' E E' hk hE q => h.mn ρ _ _ E E' (fun r => hk (frz r)) hE q, wkE h.pe ?_⟩
  rintro σ H Q ⟨B, ρ, p, r, q⟩
  refine ⟨B, ρ, p, r, h.mn _ _ _ _ _ (fun d hd v B' H' s ro => ?_) (fun _ z => z) q⟩
  obtain ⟨B'', s', _, is⟩ := ro.freeze p s
  exact hd v B'' H' s' is
theorem EV.r (h : EV X c W e f) : ER X c W e (rV f) := by
  refine ⟨fun ρ k k' E E' hk hE q => h.mn ρ _ _ E E' (fun d => hk (.val d)) hE q, wkE h.pe ?_⟩
  rintro σ H Q ⟨B, ρ, p, r, q⟩
  exact ⟨B, ρ, p, r, h.mn _ _ _ _ _ (fun d hd v B' H' s is => hd v B' H' s is) (fun _ z => z) q⟩

def dVar (i : Nat) : DV := fun ρ k _ => ∃ d, ρ[i]? = some (some d) ∧ k d
def dC (d : D) : DV := fun _ k _ => k d
theorem ev_var {i : Nat} {x : Str} (hN : X.N[i]? = some x := by rfl) (hv : Vis X.env.scope x := by first | exact Or.inl rfl | exact Or.inr (Or.inl rfl) | exact Or.inr (Or.inr rfl)) (hd : (x == ("__debug__" : Str)) = false := by decide)
    (hcd : (x == ("__classdict__" : Str)) = false := by decide) : EV X c W (.Name x pos) (dVar i) := by
  refine ⟨fun ρ k k' E E' hk hE ⟨d, e, q⟩ => ⟨d, e, hk d q⟩, wkE (pe_var hN hv hd hcd) ?_⟩
  rintro σ H Q ⟨B, ρ, p, r, d, e, q⟩
  obtain ⟨v, h1, h2⟩ := r.2 i d e
  exact ⟨v, h1, q v B H (Step.refl p) h2⟩
theorem ev_const {v : V} {d : D} (h : PE X e (tC v)) (hi : ∀ B, Is c B v d) : EV X c W e (dC d) := by
  refine ⟨fun ρ k k' E E' hk hE q => hk d q, wkE h ?_⟩
  rintro σ H Q ⟨B, ρ, p, r, q⟩
  exact q v B H (Step.refl p) (hi B)
theorem ev_int {i : Int} {j : Nat} : EV X c W (.Constant (.int i) j pos) (dC (.int i)) := ev_const pe_int fun _ => .int i
theorem ev_bl {b : Bool} {j : Nat} : EV X c W (.Constant (.bool b) j pos) (dC (.bl b)) := ev_const pe_bl fun _ => .bl b
theorem ev_non {j : Nat} : EV X c W (.Constant .none j pos) (dC .non) := ev_const pe_non fun _ => .non
theorem ev_str {x : Str} {j : Nat} : EV X c W (.Constant (.str x) j pos) (dC (.str x)) := ev_const pe_str fun _ => .str x
/-- a constant of the module -/
theorem ev_glI {x : Str} {i : Int} (hg : Gl X x) (hm : ∃ t, X.mg x = some (.int i t)) (hd : (x == ("__debug__" : Str)) = false := by decide) : EV X c W (.Name x pos) (dC (.int i)) :=
  let ⟨t, h⟩ := hm
  ev_const (v := .int i) (pe_glob hg h ⟨t, rfl⟩ hd) fun _ => .int i

end
end Dv

set_option Elab.async false
set_option linter.all false
set_option maxRecDepth 100000
set_option maxHeartbeats 2000000
namespace Dv
open PySem PySem.Spec PyProof.Rows L2
open AutoSeq1 (wpAny_loadPart')
section
variable {X : Cx} {c : Cn X.K} {W : WX} {e a b : Expr} {es : List Expr} {pos : Pos} {f g : DV}

/-! ### operators that give results -/
def rBin (f g : DV) (op : D → D → (Rv → Prop) → Prop) : DR := fun ρ k E => f ρ (fun d => g ρ (fun e => op d e k) E) E
def OpN {K : PySem.W.Frag} (c : Cn K) (r : R2) (op : D → D → (Rv → Prop) → Prop) : Prop :=
  (∀ d e (k k' : Rv → Prop), (∀ z, k z → k' z) → op d e k → op d e k') ∧
  ∀ B H x y d e (Q : VK) (k : Rv → Prop), Pre c B H → Is c B x d → Is c B y e → op d e k → (∀ z B' H' u, Step c B H B' H' → RvOk c H B' H' z u → k u → Q z H') → r x y H Q
theorem RvOk.up {K : PySem.W.Frag} {c : Cn K} {B H B1 H1 B' H' : Hp} {z : V} {u : Rv} (s : Step c B H B1 H1) (h : RvOk c H1 B' H' z u) : RvOk c H B' H' z u := by
  cases u with
  | val d => exact h
  | new ds =>
    obtain ⟨a, vs, h1, h2, h3, h4, h5⟩ := h
    refine ⟨a, vs, h1, h2, h3, h4, ?_⟩
    cases q : H a with
    | none => rfl
    | some o => exact absurd h5 (s.th a (by rw [q]; exact fun z => nomatch z))
theorem rbin_ok {r : R2} {op : D → D → (Rv → Prop) → Prop} (ha : EV X c W a f) (hb : EV X c W b g) (ho : OpN c r op) :
    Mn (rBin f g op) ∧ ∀ σ H Q, tR c W (rBin f g op) σ H Q → tOp r (tV c W f) (tV c W g) σ H Q := by
  refine ⟨fun ρ k k' E E' hk hE q => ha.mn ρ _ _ E E' (fun d q => hb.mn ρ _ _ E E' (fun e q => ho.1 d e k k' hk q) hE q) hE q, ?_⟩
  rintro σ H Q ⟨B, ρ, p, rp, q⟩
  refine ⟨B, ρ, p, rp, ha.mn _ _ _ _ _ (fun d hd x B1 H1 s1 i1 => ?_) (fun _ z => z) q⟩
  refine ⟨B1, ρ, s1.pre, rp.mono s1.b, hb.mn _ _ _ _ _ (fun e he y B2 H2 s2 i2 => ?_) (fun x z => z.step s1) hd⟩
  exact ho.2 B2 H2 x y d e Q _ s2.pre (i1.mono s2.b) i2 he fun z B' H' u s3 i3 hk => hk z B' H' (s1.trans (s2.trans s3)) (i3.up (s1.trans s2))
theorem er_bin {op : Operator} {r : R2} {od : D → D → (Rv → Prop) → Prop} (ho : OpR X (binaryOp op) r) (hd : OpN c r od) (ha : EV X c W a f) (hb : EV X c W b g) : ER X c W (.BinOp a op b pos) (rBin f g od) :=
  ⟨(rbin_ok ha hb hd).1, wkE (pe_op ho ha.pe hb.pe) (rbin_ok ha hb hd).2⟩
theorem OpN.or {r r' : R2} {od od' oq : D → D → (Rv → Prop) → Prop} (h : OpN c r od) (h' : OpN c r' od') (hq : ∀ d e k, oq d e k → od d e k ∨ od' d e k) (hm : ∀ d e (k k' : Rv → Prop), (∀ z, k z → k' z) → oq d e k → oq d e k') : OpN c (fun x y H Q => r x y H Q ∨ r' x y H Q) oq := by
  refine ⟨hm, ?_⟩
  intro B H x y d e Q k p hx hy q K
  rcases hq d e k q with q | q
  · exact .inl (h.2 B H x y d e Q k p hx hy q K)
  · exact .inr (h'.2 B H x y d e Q k p hx hy q K)
/-- two whole numbers -/
def iI (C : Int → Int → Prop) (g : Int → Int → Int) : D → D → (Rv → Prop) → Prop
  | .int i, .int j, k => C i j ∧ k (.val (.int (g i j)))
  | _, _, _ => False
theorem opn_I {C : Int → Int → Prop} {g : Int → Int → Int} : OpN c (rI C fun i j => .int (g i j)) (iI C g) := by
  refine ⟨fun d e k k' hk q => ?_, ?_⟩
  · unfold iI at q ⊢
    split at q
    · exact ⟨q.1, hk _ q.2⟩
    · exact q
  · intro B H x y d e Q k p hx hy q K
    unfold iI at q
    split at q
    · cases hx; cases hy
      exact ⟨_, _, rfl, rfl, q.1, K _ B H _ (Step.refl p) (rv_val (.int _)) q.2⟩
    · exact q.elim
theorem opI0n {f : Value → Value → Sem Value} {g : Int → Int → Int} (h : OpR X f (rI0 fun i j => .int (g i j))) : OpR X f (rI (fun _ _ => True) fun i j => .int (g i j)) := by
  intro pins s σ H x y v u Q I rx ry q
  obtain ⟨i, j, h1, h2, _, q⟩ := q
  exact h pins s σ H x y v u Q I rx ry ⟨i, j, h1, h2, q⟩
def dSub : D → D → (Rv → Prop) → Prop := iI (fun _ _ => True) (fun i j => i - j)
theorem er_sub (ha : EV X c W a f) (hb : EV X c W b g) : ER X c W (.BinOp a .Sub b pos) (rBin f g dSub) := er_bin (opI0n op_sub) opn_I ha hb
/-- a divisor of any size and sign -/
def CFd (_ j : Int) : Prop := j ≠ 0 ∧ j.natAbs.log2 < 9000
theorem op_fdA : OpR X (binaryOp .FloorDiv) (rI CFd fun i j => .int (i.fdiv j)) := opI fun _ _ _ _ _ _ _ hc q => floordiv_int hc.1 q (.inl (PyProof.noPylong_of_log2 hc.2))
def dFd : D → D → (Rv → Prop) → Prop := iI CFd (fun i j => i.fdiv j)
def dMd : D → D → (Rv → Prop) → Prop := iI (fun _ j => j ≠ 0) (fun i j => i.fmod j)
def dPw : D → D → (Rv → Prop) → Prop := iI CPow (fun i j => i ^ j.toNat)
theorem er_fd (ha : EV X c W a f) (hb : EV X c W b g) : ER X c W (.BinOp a .FloorDiv b pos) (rBin f g dFd) := er_bin op_fdA opn_I ha hb
theorem er_md (ha : EV X c W a f) (hb : EV X c W b g) : ER X c W (.BinOp a .Mod b pos) (rBin f g dMd) := er_bin op_modN opn_I ha hb
theorem er_pw (ha : EV X c W a f) (hb : EV X c W b g) : ER X c W (.BinOp a .Pow b pos) (rBin f g dPw) := er_bin op_pow opn_I ha hb

/-- + of numbers, lists, tuples, texts -/
def dAdd : D → D → (Rv → Prop) → Prop
  | .int i, .int j, k => k (.val (.int (i + j)))
  | .lst xs, .lst ys, k => xs.length + ys.length ≤ sizeLine ∧ k (.new (xs ++ ys))
  | .tup xs, .tup ys, k => xs.length + ys.length ≤ sizeLine ∧ k (.val (.tup (xs ++ ys)))
  | .str x, .str y, k => x.length + y.length ≤ sizeLine ∧ k (.val (.str (x ++ y)))
  | _, _, _ => False
def rAddAll (K : PySem.W.Frag) : R2 := fun x y H Q => (∃ i j, x = .int i ∧ y = .int j ∧ Q (.int (i + j)) H) ∨ (rCat x y H Q ∨ (rCatA K x y H Q ∨ ∃ i j, x = .str i ∧ y = .str j ∧ i.length + j.length ≤ sizeLine ∧ Q (.str (i ++ j)) H))
theorem op_addAll : OpR X (binaryOp .Add) (rAddAll X.K) := OpR.or op_add (OpR.or op_cat (OpR.or op_catA op_add_str))
theorem opn_add : OpN c (rAddAll X.K) dAdd := by
  refine ⟨fun d e k k' hk q => ?_, ?_⟩
  · unfold dAdd at q ⊢
    split at q
    · exact hk _ q
    · exact ⟨q.1, hk _ q.2⟩
    · exact ⟨q.1, hk _ q.2⟩
    · exact ⟨q.1, hk _ q.2⟩
    · exact q
  · intro B H x y d e Q k p hx hy q K
    unfold dAdd at q
    split at q
    · cases hx; cases hy
      exact .inl ⟨_, _, rfl, rfl, K _ B H _ (Step.refl p) (rv_val (.int _)) q⟩
    · cases hx with
      | lst h1 r1 =>
        cases hy with
        | lst h2 r2 =>
          refine .inr (.inl ⟨_, _, _, _, rfl, rfl, p.bh _ _ h1, p.bh _ _ h2, ?_, fun q' hq => ?_⟩)
          · rw [r1.length, r2.length]; exact q.1
          · exact K _ B _ _ (Step.lay p hq _) (rv_new upd_same (r1.append r2) (p.bnone hq) hq) q.2
    · cases hx with
      | tup h1 r1 =>
        cases hy with
        | tup h2 r2 =>
          refine .inr (.inr (.inl ⟨_, _, _, _, rfl, rfl, SqT.of (p.bh _ _ h1), SqT.of (p.bh _ _ h2), ?_, fun ex => ?_, fun ex ey => ?_, fun ex ey q' hq => ?_⟩))
          · rw [r1.length, r2.length]; exact q.1
          · subst ex; cases r1
            exact K _ B H _ (Step.refl p) (rv_val (.tup h2 (by simpa using r2))) q.2
          · subst ey; cases r2
            exact K _ B H _ (Step.refl p) (rv_val (.tup h1 (by simpa using r1))) q.2
          · exact K _ _ _ _ (Step.new p hq _) (rv_val (.tup upd_same ((r1.append r2).mono (Same.new (p.bnone hq))))) q.2
    · cases hx; cases hy
      exact .inr (.inr (.inr ⟨_, _, rfl, rfl, q.1, K _ B H _ (Step.refl p) (rv_val (.str _)) q.2⟩))
    · exact q.elim
theorem er_add (ha : EV X c W a f) (hb : EV X c W b g) : ER X c W (.BinOp a .Add b pos) (rBin f g dAdd) := er_bin op_addAll opn_add ha hb

theorem tuple_mul1 (l : Addr) (items : Array Value) (n : Nat) (dd : Option Addr) (sl : Array (Option Value)) (x : Int) (u : Tok) (c0 : (decide (x < -(2 ^ 63)) || decide (x ≥ 2 ^ 63)) = false) (c1 : (items.isEmpty || x == 1) = true) :
    Meets (Builtin.«tuple.__mul__» ⟨[.ref l, .int x u], []⟩) (fun _ R s => s.heap.get? l = some { cls := .type "tuple", dict := dd, data := .seq items n, slots := sl } ∧ R (.ok (.ret (Value.ref l))) s) :=
  .of_wp fun prog w A R s h => by
    obtain ⟨hp, g, d, tk, os⟩ := s
    obtain ⟨hl, h⟩ := h
    have f1 := AutoSeq1.idx_int
    have hT : Shared.TypeIs ⟨hp, g, d, tk, os⟩ (.ref l) "tuple" := ⟨_, hl, rfl⟩
    wp_walk using wpAny_loadPart' hl
    repeat (first
      | (refine wpAny_ite_false (decide_eq_false (by rw [c0]; exact Bool.false_ne_true)) ?_; wp_walk using wpAny_loadPart' hl)
      | (refine wpAny_ite_true (decide_eq_true c1) ?_; wp_walk using wpAny_loadPart' hl))
    exact ⟨_, rfl, h⟩
def rRepT1 (K : PySem.W.Frag) : R2 := fun x y H Q => ∃ l k xs, x = .ref l ∧ y = .int k ∧ SqT K H l xs ∧ (xs = [] ∨ k = 1) ∧ -(2 ^ 63) ≤ k ∧ k < 2 ^ 63 ∧ Q (.ref l) H
theorem op_repT1 : OpR X (binaryOp .Mult) (rRepT1 X.K) := by
  intro pins s σ H x y v u Q I rx ry h
  obtain ⟨l, k, xs, rfl, rfl, hT, h1, b1, b2, q⟩ := h
  cases rx
  obtain ⟨t, rfl⟩ := ry
  obtain ⟨its, r, ⟨⟨cls, dd, data, sl⟩, ho, hc, n, hd⟩, _⟩ := I.tuple hT
  simp only at hc hd
  subst hc hd
  have hle := r.length
  have c0 : (decide (k < -(2 ^ 63)) || decide (k ≥ 2 ^ 63)) = false := by
    rw [decide_eq_false (by omega), decide_eq_false (by omega)]; rfl
  have c1 : (its.toArray.isEmpty || k == 1) = true := by
    rcases h1 with e | e
    · subst e
      cases its with
      | nil => rfl
      | cons a b => simp at hle
    · subst e
      cases its.toArray.isEmpty <;> rfl
  have tI : s.TypeIs (.ref l) "tuple" := ⟨_, ho, rfl⟩
  have run := call_meets (prog := X.prog) (w := X.w) (A := X.A) (E := X.xe) (s := s) (Q := EP X pins σ Q) F.slot_tuple_mul tI F.entry_tuple_mul (F.args_tuple_mul_2 _ _) (tuple_mul1 l its.toArray n dd sl k t c0 c1) ⟨ho, ⟨.ref l, H, I, rfl, q⟩⟩
  exact wpAny_binaryOp_repeat_ref (T := "tuple") (U := "int") (by decide) tI (fun s' => typeIs_int s' k t) noFill_tuple_mul F.fills_int_mul F.slot_int_rmul repeat_tuple F.slot_int_index.lookup
    (call_meets F.slot_int_rmul (typeIs_int s k t) F.entry_int_rmul (F.args_int_rmul_2 _ _) (int_rmul_tuple k t l its.toArray n dd sl) ⟨ho, rfl, tI, run⟩)
/-- * of numbers, of a list and a number -/
def dMul : D → D → (Rv → Prop) → Prop
  | .int i, .int j, k => IntMulOk i j ∧ k (.val (.int (i * j)))
  | .lst xs, .int j, k => (-(2 ^ 63) ≤ j ∧ j < 2 ^ 63 ∧ xs.length * j.toNat ≤ sizeLine) ∧ k (.new (List.replicate j.toNat xs).flatten)
  | .tup xs, .int j, k => ((xs = [] ∨ j = 1) ∧ -(2 ^ 63) ≤ j ∧ j < 2 ^ 63 ∨ xs ≠ [] ∧ 2 ≤ j ∧ j ≤ 1000 ∧ xs.length ≤ 1000) ∧ k (.val (.tup (List.replicate j.toNat xs).flatten))
  | _, _, _ => False
theorem IsL.rep {K : PySem.W.Frag} {c : Cn K} {B : Hp} {vs : List V} {ds : List D} (h : IsL c B vs ds) : ∀ n : Nat, IsL c B (List.replicate n vs).flatten (List.replicate n ds).flatten
  | 0 => .nil
  | n + 1 => by
    rw [List.replicate_succ, List.replicate_succ, List.flatten_cons, List.flatten_cons]
    exact h.append (IsL.rep h n)
theorem rep1 {xs : List D} {j : Int} (h : xs = [] ∨ j = 1) : (List.replicate j.toNat xs).flatten = xs := by
  rcases h with h | h
  · subst h; simp
  · subst h; simp
def rMulAll (K : PySem.W.Frag) : R2 := fun x y H Q => rI IntMulOk (fun i j => .int (i * j)) x y H Q ∨ (rRep x y H Q ∨ (rRepT K x y H Q ∨ rRepT1 K x y H Q))
theorem op_mulA : OpR X (binaryOp .Mult) (rI IntMulOk fun i j => .int (i * j)) := opI fun _ _ _ _ _ _ _ hc q => PyProof.Rows.mul_int q hc
theorem op_mulAll : OpR X (binaryOp .Mult) (rMulAll X.K) := OpR.or op_mulA (OpR.or op_rep (OpR.or op_repT op_repT1))
theorem opn_mul : OpN c (rMulAll X.K) dMul := by
  refine ⟨fun d e k k' hk q => ?_, ?_⟩
  · unfold dMul at q ⊢
    split at q
    · exact ⟨q.1, hk _ q.2⟩
    · exact ⟨q.1, hk _ q.2⟩
    · exact ⟨q.1, hk _ q.2⟩
    · exact q
  · intro B H x y d e Q k p hx hy q K
    unfold dMul at q
    split at q
    · cases hx; cases hy
      exact .inl ⟨_, _, rfl, rfl, q.1, K _ B H _ (Step.refl p) (rv_val (.int _)) q.2⟩
    · cases hx with
      | lst h1 r1 =>
        cases hy
        refine .inr (.inl ⟨_, _, _, rfl, rfl, p.bh _ _ h1, q.1.1, q.1.2.1, ?_, fun q' hq => ?_⟩)
        · rw [r1.length]; exact q.1.2.2
        · exact K _ B _ _ (Step.lay p hq _) (rv_new upd_same (r1.rep _) (p.bnone hq) hq) q.2
    · cases hx with
      | tup h1 r1 =>
        cases hy
        obtain ⟨q0, q4⟩ := q
        rcases q0 with ⟨q1, q2, q3⟩ | ⟨n0, q1, q2, q3⟩
        · have e : (List.replicate (Int.toNat _) _).flatten = _ := rep1 q1
          rw [e] at q4
          refine .inr (.inr (.inr ⟨_, _, _, rfl, rfl, SqT.of (p.bh _ _ h1), ?_, q2, q3, K _ B H _ (Step.refl p) (rv_val (.tup h1 r1)) q4⟩))
          rcases q1 with z | z
          · subst z; cases r1; exact .inl rfl
          · exact .inr z
        · refine .inr (.inr (.inl ⟨_, _, _, rfl, rfl, SqT.of (p.bh _ _ h1), ?_, q1, q2, ?_, fun q' hq => ?_⟩))
          · rintro rfl; cases r1; exact n0 rfl
          · rw [r1.length]; exact q3
          · exact K _ _ _ _ (Step.new p hq _) (rv_val (.tup upd_same ((r1.rep _).mono (Same.new (p.bnone hq))))) q4
    · exact q.elim
theorem er_mul (ha : EV X c W a f) (hb : EV X c W b g) : ER X c W (.BinOp a .Mult b pos) (rBin f g dMul) := er_bin op_mulAll opn_mul ha hb
/-- -a -/
def dNeg (f : DV) : DV := fun ρ k E => f ρ (fun d => ∃ i, d = .int i ∧ k (.int (-i))) E
theorem ev_neg (ha : EV X c W a f) : EV X c W (.UnaryOp .USub a pos) (dNeg f) := by
  refine ⟨fun ρ k k' E E' hk hE q => ha.mn ρ _ _ E E' (fun d ⟨i, h1, h2⟩ => ⟨i, h1, hk _ h2⟩) hE q, wkE (pe_un un_neg ha.pe) ?_⟩
  rintro σ H Q ⟨B, ρ, p, rp, q⟩
  refine ⟨B, ρ, p, rp, ha.mn _ _ _ _ _ (fun d ⟨i, h1, h2⟩ x B1 H1 s1 i1 => ?_) (fun _ z => z) q⟩
  subst h1; cases i1
  exact ⟨i, rfl, h2 _ B1 H1 s1 (.int _)⟩

/-! ### comparisons -/
def cBin (f g : DV) (op : D → D → (Bool → Prop) → Prop) : DB := fun ρ k E => f ρ (fun d => g ρ (fun e => op d e k) E) E
def bV (f : DB) : DV := fun ρ k E => f ρ (fun b => k (.bl b)) E
def OpC {K : PySem.W.Frag} (c : Cn K) (r : R2) (op : D → D → (Bool → Prop) → Prop) : Prop :=
  (∀ d e (k k' : Bool → Prop), (∀ z, k z → k' z) → op d e k → op d e k') ∧
  ∀ B H x y d e (Q : VK) (k : Bool → Prop), Pre c B H → Is c B x d → Is c B y e → op d e k → (∀ b, k b → Q (.bl b) H) → r x y H Q
theorem cbin_mn {op : D → D → (Bool → Prop) → Prop} (ha : EV X c W a f) (hb : EV X c W b g) (hm : ∀ d e (k k' : Bool → Prop), (∀ z, k z → k' z) → op d e k → op d e k') : Mn (cBin f g op) :=
  fun ρ k k' E E' hk hE q => ha.mn ρ _ _ E E' (fun d q => hb.mn ρ _ _ E E' (fun e q => hm d e k k' hk q) hE q) hE q
theorem bV_mn {f : DB} (h : Mn f) : Mn (bV f) := fun ρ k k' E E' hk hE q => h ρ _ _ E E' (fun b => hk _) hE q
theorem ev_cmp {op : CmpOp} {r : R2} {od : D → D → (Bool → Prop) → Prop} (ho : OpR X (compareOp op) r) (hd : OpC c r od) (ha : EV X c W a f) (hb : EV X c W b g) (hm : behindInMarks op b = false) : EV X c W (.Compare a [op] [b] pos) (bV (cBin f g od)) := by
  refine ⟨bV_mn (cbin_mn ha hb hd.1), wkE (pe_cmpR ho ha.pe hb.pe hm) ?_⟩
  rintro σ H Q ⟨B, ρ, p, rp, q⟩
  refine ⟨B, ρ, p, rp, ha.mn _ _ _ _ _ (fun d hd' x B1 H1 s1 i1 => ?_) (fun _ z => z) q⟩
  refine ⟨B1, ρ, s1.pre, rp.mono s1.b, hb.mn _ _ _ _ _ (fun e he y B2 H2 s2 i2 => ?_) (fun x z => z.step s1) hd'⟩
  exact hd.2 B2 H2 x y d e Q _ s2.pre (i1.mono s2.b) i2 he fun b hk => hk _ B2 H2 (s1.trans s2) (.bl b)
theorem eb_cmp {op : CmpOp} {r : R2} {od : D → D → (Bool → Prop) → Prop} (ho : OpR X (compareOp op) r) (hd : OpC c r od) (ha : EV X c W a f) (hb : EV X c W b g) (hm : behindInMarks op b = false) : EB X c W (.Compare a [op] [b] pos) (cBin f g od) := by
  refine ⟨cbin_mn ha hb hd.1, wkT (pt_cmpR ho ha.pe hb.pe hm) ?_⟩
  rintro σ H Q ⟨B, ρ, p, rp, q⟩
  refine ⟨B, ρ, p, rp, ha.mn _ _ _ _ _ (fun d hd' x B1 H1 s1 i1 => ?_) (fun _ z => z) q⟩
  refine ⟨B1, ρ, s1.pre, rp.mono s1.b, hb.mn _ _ _ _ _ (fun e he y B2 H2 s2 i2 => ?_) (fun x z => z.step s1) hd'⟩
  exact hd.2 B2 H2 x y d e _ _ s2.pre (i1.mono s2.b) i2 he fun b hk => ⟨b, rfl, hk B2 H2 (s1.trans s2)⟩
/-- of two whole numbers -/
def iC (g : Int → Int → Bool) : D → D → (Bool → Prop) → Prop
  | .int i, .int j, k => k (g i j)
  | _, _, _ => False
theorem opc_I {g : Int → Int → Bool} : OpC c (rI0 fun i j => .bl (g i j)) (iC g) := by
  refine ⟨fun d e k k' hk q => ?_, ?_⟩
  · unfold iC at q ⊢
    split at q
    · exact hk _ q
    · exact q
  · intro B H x y d e Q k p hx hy q K
    unfold iC at q
    split at q
    · cases hx; cases hy
      exact ⟨_, _, rfl, rfl, K _ q⟩
    · exact q.elim
abbrev dLt := iC fun i j => decide (i < j)
abbrev dLe := iC fun i j => decide (i ≤ j)
abbrev dGt := iC fun i j => decide (j < i)
abbrev dGe := iC fun i j => decide (j ≤ i)
theorem ev_lt (ha : EV X c W a f) (hb : EV X c W b g) : EV X c W (.Compare a [.Lt] [b] pos) (bV (cBin f g dLt)) := ev_cmp op_lt opc_I ha hb (nomark _)
theorem eb_lt (ha : EV X c W a f) (hb : EV X c W b g) : EB X c W (.Compare a [.Lt] [b] pos) (cBin f g dLt) := eb_cmp op_lt opc_I ha hb (nomark _)
theorem ev_le (ha : EV X c W a f) (hb : EV X c W b g) : EV X c W (.Compare a [.LtE] [b] pos) (bV (cBin f g dLe)) := ev_cmp op_le opc_I ha hb (nomark _)
theorem eb_le (ha : EV X c W a f) (hb : EV X c W b g) : EB X c W (.Compare a [.LtE] [b] pos) (cBin f g dLe) := eb_cmp op_le opc_I ha hb (nomark _)
theorem ev_gt (ha : EV X c W a f) (hb : EV X c W b g) : EV X c W (.Compare a [.Gt] [b] pos) (bV (cBin f g dGt)) := ev_cmp op_gt opc_I ha hb (nomark _)
theorem eb_gt (ha : EV X c W a f) (hb : EV X c W b g) : EB X c W (.Compare a [.Gt] [b] pos) (cBin f g dGt) := eb_cmp op_gt opc_I ha hb (nomark _)
theorem ev_ge (ha : EV X c W a f) (hb : EV X c W b g) : EV X c W (.Compare a [.GtE] [b] pos) (bV (cBin f g dGe)) := ev_cmp op_ge opc_I ha hb (nomark _)
theorem eb_ge (ha : EV X c W a f) (hb : EV X c W b g) : EB X c W (.Compare a [.GtE] [b] pos) (cBin f g dGe) := eb_cmp op_ge opc_I ha hb (nomark _)
/-- a op b op' c -/
def cChain (f g h : DV) (o1 o2 : D → D → (Bool → Prop) → Prop) : DB := fun ρ k E => f ρ (fun d => g ρ (fun e => o1 d e (fun b => (b = false → k false) ∧ (b = true → h ρ (fun u => o2 e u k) E))) E) E
theorem chain_mn {h : DV} {x : Expr} {o1 o2 : D → D → (Bool → Prop) → Prop} (ha : EV X c W a f) (hb : EV X c W b g) (hc : EV X c W x h) (h1 : ∀ d e (k k' : Bool → Prop), (∀ z, k z → k' z) → o1 d e k → o1 d e k') (h2 : ∀ d e (k k' : Bool → Prop), (∀ z, k z → k' z) → o2 d e k → o2 d e k') : Mn (cChain f g h o1 o2) :=
  fun ρ k k' E E' hk hE q => ha.mn ρ _ _ E E' (fun d q => hb.mn ρ _ _ E E' (fun e q => h1 d e _ _ (fun b ⟨p1, p2⟩ => ⟨fun z => hk _ (p1 z), fun z => hc.mn ρ _ _ E E' (fun u q => h2 e u k k' hk q) hE (p2 z)⟩) q) hE q) hE q
theorem eb_chain {h : DV} {x : Expr} {op op' : CmpOp} {r r' : R2} {o1 o2 : D → D → (Bool → Prop) → Prop} (ho : OpR X (compareOp op) r) (ho' : OpR X (compareOp op') r') (h1 : OpC c r o1) (h2 : OpC c r' o2) (ha : EV X c W a f) (hb : EV X c W b g) (hc : EV X c W x h)
    (pt : PT X (.Compare a [op, op'] [b, x] pos) (tTest (tChain r r' (tV c W f) (tV c W g) (tV c W h)))) : EB X c W (.Compare a [op, op'] [b, x] pos) (cChain f g h o1 o2) := by
  refine ⟨chain_mn ha hb hc h1.1 h2.1, wkT pt ?_⟩
  rintro σ H Q ⟨B, ρ, p, rp, q⟩
  refine ⟨B, ρ, p, rp, ha.mn _ _ _ _ _ (fun d hd' x B1 H1 s1 i1 => ?_) (fun _ z => z) q⟩
  refine ⟨B1, ρ, s1.pre, rp.mono s1.b, hb.mn _ _ _ _ _ (fun e he y B2 H2 s2 i2 => ?_) (fun x z => z.step s1) hd'⟩
  refine h1.2 B2 H2 x y d e _ _ s2.pre (i1.mono s2.b) i2 he fun b hk => ⟨b, rfl, ?_⟩
  cases b with
  | false =>
    rw [if_neg Bool.false_ne_true]
    exact ⟨false, rfl, hk.1 rfl B2 H2 (s1.trans s2)⟩
  | true =>
    rw [if_pos rfl]
    refine ⟨B2, ρ, s2.pre, (rp.mono s1.b).mono s2.b, hc.mn _ _ _ _ _ (fun u hu z B3 H3 s3 i3 => ?_) (fun x z => z.step (s1.trans s2)) (hk.2 rfl)⟩
    exact h2.2 B3 H3 y z e u _ _ s3.pre (i2.mono s3.b) i3 hu fun b' hk' => ⟨b', rfl, hk' B3 H3 (s1.trans (s2.trans s3))⟩
theorem ev_chain {h : DV} {x : Expr} {op op' : CmpOp} {r r' : R2} {o1 o2 : D → D → (Bool → Prop) → Prop} (h1 : OpC c r o1) (h2 : OpC c r' o2) (ha : EV X c W a f) (hb : EV X c W b g) (hc : EV X c W x h)
    (pe : PE X (.Compare a [op, op'] [b, x] pos) (tChain r r' (tV c W f) (tV c W g) (tV c W h))) : EV X c W (.Compare a [op, op'] [b, x] pos) (bV (cChain f g h o1 o2)) := by
  refine ⟨bV_mn (chain_mn ha hb hc h1.1 h2.1), wkE pe ?_⟩
  rintro σ H Q ⟨B, ρ, p, rp, q⟩
  refine ⟨B, ρ, p, rp, ha.mn _ _ _ _ _ (fun d hd' x B1 H1 s1 i1 => ?_) (fun _ z => z) q⟩
  refine ⟨B1, ρ, s1.pre, rp.mono s1.b, hb.mn _ _ _ _ _ (fun e he y B2 H2 s2 i2 => ?_) (fun x z => z.step s1) hd'⟩
  refine h1.2 B2 H2 x y d e _ _ s2.pre (i1.mono s2.b) i2 he fun b hk => ⟨b, rfl, ?_⟩
  cases b with
  | false =>
    rw [if_neg Bool.false_ne_true]
    exact hk.1 rfl _ B2 H2 (s1.trans s2) (.bl _)
  | true =>
    rw [if_pos rfl]
    refine ⟨B2, ρ, s2.pre, (rp.mono s1.b).mono s2.b, hc.mn _ _ _ _ _ (fun u hu z B3 H3 s3 i3 => ?_) (fun x z => z.step (s1.trans s2)) (hk.2 rfl)⟩
    exact h2.2 B3 H3 y z e u _ _ s3.pre (i2.mono s3.b) i3 hu fun b' hk' => hk' _ B3 H3 (s1.trans (s2.trans s3)) (.bl _)

/-! ### == of data -/
mutual
def D.py : D → PyData
  | .non => .none
  | .bl b => .bool b
  | .int i => .int i
  | .str x => .str x
  | .tup ds => .tuple (pyL ds)
  | .lst ds => .list (pyL ds)
  | .ro ds => .list (pyL ds)
  | .obj _ _ => .dict []
  | .fn _ => .dict []
  | .typ _ => .dict []
  | .drw => .dict []
  | .opq _ => .dict []
  | .dct => .dict []
  | .flt _ => .dict []
  | .lam _ _ => .dict []
  | .xcp _ _ => .dict []
def pyL : List D → List PyData
  | [] => []
  | d :: ds => d.py :: pyL ds
end
/-! data of a depth of at most n -/
mutual
def D.okd : Nat → D → Bool
  | _, .non => true
  | _, .bl _ => true
  | _, .int _ => true
  | _, .str x => PyData.canLay0 (.str x)
  | n + 1, .tup ds => okdL n ds
  | n + 1, .lst ds => okdL n ds
  | n + 1, .ro ds => okdL n ds
  | _, _ => false
def okdL : Nat → List D → Bool
  | _, [] => true
  | n, d :: ds => D.okd n d && okdL n ds
end
mutual
theorem okd_lay : ∀ (n : Nat) (d : D), d.okd n = true → d.py.canLay0 = true ∧ d.py.depth ≤ n
  | _, .non, _ => by simp [D.py, PyData.canLay0, PyData.depth]
  | _, .bl _, _ => by simp [D.py, PyData.canLay0, PyData.depth]
  | _, .int _, _ => by simp [D.py, PyData.canLay0, PyData.depth]
  | _, .str x, h => by
    refine ⟨by simpa [D.py, D.okd] using h, by simp [D.py, PyData.depth]⟩
  | n + 1, .tup ds, h => by
    have q := okdL_lay n ds (by simpa [D.okd] using h)
    simp only [D.py, PyData.canLay0, PyData.depth]
    exact ⟨q.1, by omega⟩
  | n + 1, .lst ds, h => by
    have q := okdL_lay n ds (by simpa [D.okd] using h)
    simp only [D.py, PyData.canLay0, PyData.depth]
    exact ⟨q.1, by omega⟩
  | n + 1, .ro ds, h => by
    have q := okdL_lay n ds (by simpa [D.okd] using h)
    simp only [D.py, PyData.canLay0, PyData.depth]
    exact ⟨q.1, by omega⟩
  | 0, .tup ds, h => by simp [D.okd] at h
  | 0, .lst ds, h => by simp [D.okd] at h
  | 0, .ro ds, h => by simp [D.okd] at h
  | _, .obj _ _, h => by simp [D.okd] at h
  | _, .fn _, h => by simp [D.okd] at h
  | _, .typ _, h => by simp [D.okd] at h
  | _, .drw, h => by simp [D.okd] at h
  | _, .opq _, h => by simp [D.okd] at h
  | _, .lam _ _, h => by simp [D.okd] at h
  | _, .xcp _ _, h => by simp [D.okd] at h
theorem okdL_lay : ∀ (n : Nat) (ds : List D), okdL n ds = true → PyData.canLayAll0 (pyL ds) = true ∧ PyData.depthAll (pyL ds) ≤ n
  | _, [], _ => by simp [pyL, PyData.canLayAll0, PyData.depthAll]
  | n, d :: ds, h => by
    simp only [okdL, Bool.and_eq_true] at h
    have q1 := okd_lay n d h.1
    have q2 := okdL_lay n ds h.2
    simp only [pyL, PyData.canLayAll0, PyData.depthAll, Bool.and_eq_true]
    exact ⟨⟨q1.1, q2.1⟩, by omega⟩
end
theorem okd_shaped {d : D} (h : d.okd 60 = true) : SeqAt.shaped d.py = true := by
  have q := okd_lay 60 d h
  unfold SeqAt.shaped
  rw [q.1, Bool.true_and]
  exact decide_eq_true (by omega)
section
variable {K : PySem.W.Frag} {c : Cn K} {B H : Hp}
mutual
theorem Is.dp (s : Same B H) : ∀ {n : Nat} {v : V} {d : D}, Is c B v d → d.okd n = true → Dp K H v d.py
  | _, _, _, .non, _ => .non
  | _, _, _, .bl b, _ => .bl b
  | _, _, _, .int i, _ => .int i
  | _, _, _, .str x, _ => .str x
  | n + 1, _, _, .tup h r, f => .tup (SqT.of (s _ _ h)) (IsL.dp (n := n) s r (by simpa [D.okd] using f))
  | n + 1, _, _, .lst h r, f => .lst (SqL.of (s _ _ h)) (IsL.dp (n := n) s r (by simpa [D.okd] using f))
  | n + 1, _, _, .ro h r, f => .lst (Same.l s h) (IsL.dp (n := n) s r (by simpa [D.okd] using f))
  | 0, _, _, .tup h r, f => by simp [D.okd] at f
  | 0, _, _, .lst h r, f => by simp [D.okd] at f
  | 0, _, _, .ro h r, f => by simp [D.okd] at f
  | _, _, _, .obj h o r, f => by simp [D.okd] at f
  | _, _, _, .fn x, f => by simp [D.okd] at f
  | _, _, _, .typ n, f => by simp [D.okd] at f
  | _, _, _, .drw, f => by simp [D.okd] at f
theorem IsL.dp (s : Same B H) : ∀ {n : Nat} {vs : List V} {ds : List D}, IsL c B vs ds → okdL n ds = true → DpAll K H vs (pyL ds)
  | _, _, _, .nil, _ => .nil
  | n, _, _, .cons r t, f => by
    simp only [okdL, Bool.and_eq_true] at f
    exact .cons (Is.dp s r f.1) (IsL.dp s t f.2)
end
end
def D.eqb (d e : D) : Bool := PyData.eqv d.py e.py
def dEq : D → D → (Bool → Prop) → Prop := fun d e k => (d.okd 60 = true ∧ e.okd 60 = true) ∧ k (d.eqb e)
def dNe : D → D → (Bool → Prop) → Prop := fun d e k => (d.okd 60 = true ∧ e.okd 60 = true) ∧ k (!d.eqb e)
theorem opc_eq : OpC c (rEqD X.K) dEq := by
  refine ⟨fun d e k k' hk q => ⟨q.1, hk _ q.2⟩, ?_⟩
  intro B H x y d e Q k p hx hy q K
  exact ⟨_, _, hx.dp p.bh q.1.1, hy.dp p.bh q.1.2, okd_shaped q.1.1, okd_shaped q.1.2, K _ q.2⟩
theorem opc_ne : OpC c (rNeD X.K) dNe := by
  refine ⟨fun d e k k' hk q => ⟨q.1, hk _ q.2⟩, ?_⟩
  intro B H x y d e Q k p hx hy q K
  exact ⟨_, _, hx.dp p.bh q.1.1, hy.dp p.bh q.1.2, okd_shaped q.1.1, okd_shaped q.1.2, K _ q.2⟩
theorem ev_eq (hu : X.A.units + 64 < cLine) (ha : EV X c W a f) (hb : EV X c W b g) : EV X c W (.Compare a [.Eq] [b] pos) (bV (cBin f g dEq)) := ev_cmp (op_eqD hu) opc_eq ha hb (nomark _)
theorem eb_eq (hu : X.A.units + 64 < cLine) (ha : EV X c W a f) (hb : EV X c W b g) : EB X c W (.Compare a [.Eq] [b] pos) (cBin f g dEq) := eb_cmp (op_eqD hu) opc_eq ha hb (nomark _)
theorem ev_ne (hu : X.A.units + 64 < cLine) (ha : EV X c W a f) (hb : EV X c W b g) : EV X c W (.Compare a [.NotEq] [b] pos) (bV (cBin f g dNe)) := ev_cmp (op_neD hu) opc_ne ha hb (nomark _)
theorem eb_ne (hu : X.A.units + 64 < cLine) (ha : EV X c W a f) (hb : EV X c W b g) : EB X c W (.Compare a [.NotEq] [b] pos) (cBin f g dNe) := eb_cmp (op_neD hu) opc_ne ha hb (nomark _)
/-- is None -/
def D.isNon : D → Bool
  | .non => true
  | _ => false
theorem Is.isNon {K : PySem.W.Frag} {c : Cn K} {B : Hp} {v : V} {d : D} (h : Is c B v d) : decide (v = .non) = d.isNon := by cases h <;> rfl
def dIsN : D → D → (Bool → Prop) → Prop := fun d e k => e = .non ∧ k d.isNon
def dNotN : D → D → (Bool → Prop) → Prop := fun d e k => e = .non ∧ k (!d.isNon)
theorem opc_isN : OpC c (fun x y H Q => y = .non ∧ Q (.bl (decide (x = .non))) H) dIsN := by
  refine ⟨fun d e k k' hk q => ⟨q.1, hk _ q.2⟩, ?_⟩
  rintro B H x y d e Q k p hx hy ⟨rfl, q⟩ K
  cases hy
  exact ⟨rfl, by rw [hx.isNon]; exact K _ q⟩
theorem opc_notN : OpC c (fun x y H Q => y = .non ∧ Q (.bl (!decide (x = .non))) H) dNotN := by
  refine ⟨fun d e k k' hk q => ⟨q.1, hk _ q.2⟩, ?_⟩
  rintro B H x y d e Q k p hx hy ⟨rfl, q⟩ K
  cases hy
  exact ⟨rfl, by rw [hx.isNon]; exact K _ q⟩
theorem ev_isN (ha : EV X c W a f) (hb : EV X c W b g) : EV X c W (.Compare a [.Is] [b] pos) (bV (cBin f g dIsN)) := ev_cmp op_isN opc_isN ha hb (nomark _)
theorem eb_isN (ha : EV X c W a f) (hb : EV X c W b g) : EB X c W (.Compare a [.Is] [b] pos) (cBin f g dIsN) := eb_cmp op_isN opc_isN ha hb (nomark _)
theorem ev_notN (ha : EV X c W a f) (hb : EV X c W b g) : EV X c W (.Compare a [.IsNot] [b] pos) (bV (cBin f g dNotN)) := ev_cmp op_notN opc_notN ha hb (nomark _)
theorem eb_notN (ha : EV X c W a f) (hb : EV X c W b g) : EB X c W (.Compare a [.IsNot] [b] pos) (cBin f g dNotN) := eb_cmp op_notN opc_notN ha hb (nomark _)
/-- is True, is False: of truths -/
def dIsB : D → D → (Bool → Prop) → Prop
  | .bl x, .bl y, k => k (decide (x = y))
  | _, _, _ => False
def dNotB : D → D → (Bool → Prop) → Prop
  | .bl x, .bl y, k => k (!decide (x = y))
  | _, _, _ => False
theorem opc_isB : OpC c rIsB dIsB := by
  refine ⟨fun d e k k' hk q => ?_, ?_⟩
  · unfold dIsB at q ⊢
    split at q
    · exact hk _ q
    · exact q
  · intro B H x y d e Q k p hx hy q K
    unfold dIsB at q
    split at q
    · cases hx; cases hy
      exact ⟨_, _, rfl, rfl, K _ q⟩
    · exact q.elim
theorem opc_notB : OpC c rNotB dNotB := by
  refine ⟨fun d e k k' hk q => ?_, ?_⟩
  · unfold dNotB at q ⊢
    split at q
    · exact hk _ q
    · exact q
  · intro B H x y d e Q k p hx hy q K
    unfold dNotB at q
    split at q
    · cases hx; cases hy
      exact ⟨_, _, rfl, rfl, K _ q⟩
    · exact q.elim
theorem ev_isB (ha : EV X c W a f) (hb : EV X c W b g) : EV X c W (.Compare a [.Is] [b] pos) (bV (cBin f g dIsB)) := ev_cmp op_isBl opc_isB ha hb (nomark _)
theorem eb_isB (ha : EV X c W a f) (hb : EV X c W b g) : EB X c W (.Compare a [.Is] [b] pos) (cBin f g dIsB) := eb_cmp op_isBl opc_isB ha hb (nomark _)
theorem ev_notB (ha : EV X c W a f) (hb : EV X c W b g) : EV X c W (.Compare a [.IsNot] [b] pos) (bV (cBin f g dNotB)) := ev_cmp op_notBl opc_notB ha hb (nomark _)
theorem eb_notB (ha : EV X c W a f) (hb : EV X c W b g) : EB X c W (.Compare a [.IsNot] [b] pos) (cBin f g dNotB) := eb_cmp op_notBl opc_notB ha hb (nomark _)
end
end Dv

set_option Elab.async false
set_option linter.all false
set_option maxRecDepth 100000
set_option maxHeartbeats 2000000
namespace Dv
open PySem PySem.Spec PyProof.Rows L2
section
variable {X : Cx} {c : Cn X.K} {W : WX} {e a b : Expr} {es : List Expr} {pos : Pos} {f g : DV}

/-! ### argument lists, displays -/
def aNil : DL := fun _ k _ => k []
def aCons (f : DV) (g : DL) : DL := fun ρ k E => f ρ (fun d => g ρ (fun ds => k (d :: ds)) E) E
theorem ea_nil : EA X c W [] aNil :=
  ⟨fun ρ k k' E E' hk hE q => hk _ q, fun ρ k E q => ⟨rfl, q⟩, wkA pa_nil fun σ H Q ⟨B, ρ, p, rp, q⟩ => q [] B H (Step.refl p) .nil⟩
theorem ea_cons {g : DL} (he : EV X c W e f) (hr : EA X c W es g) (hs : starEach (e :: es) X.env = (false, eval e X.env) :: starEach es X.env := by rfl) : EA X c W (e :: es) (aCons f g) := by
  refine ⟨fun ρ k k' E E' hk hE q => he.mn ρ _ _ E E' (fun d q => hr.mn ρ _ _ E E' (fun ds q => hk _ q) hE q) hE q, fun ρ k E q => ?_, wkA (pa_cons he.pe hr.pa hs) ?_⟩
  · refine he.mn ρ _ _ E E (fun d q => ?_) (fun _ z => z) q
    refine hr.mn ρ _ _ E E (fun ds q => ⟨?_, q.2⟩) (fun _ z => z) (hr.len ρ _ E q)
    rw [List.length_cons, List.length_cons, q.1]
  · rintro σ H Q ⟨B, ρ, p, rp, q⟩
    refine ⟨B, ρ, p, rp, he.mn _ _ _ _ _ (fun d hd x B1 H1 s1 i1 => ?_) (fun _ z => z) q⟩
    refine ⟨B1, ρ, s1.pre, rp.mono s1.b, hr.mn _ _ _ _ _ (fun ds hds vs B2 H2 s2 i2 => ?_) (fun x z => z.step s1) hd⟩
    exact hds _ B2 H2 (s1.trans s2) (.cons (i1.mono s2.b) i2)
def dTup (g : DL) : DV := fun ρ k E => g ρ (fun ds => k (.tup ds)) E
def dLst (g : DL) : DR := fun ρ k E => g ρ (fun ds => k (.new ds)) E
theorem ev_tup {g : DL} {x1 : Nat} (h : EA X c W es g) (hl : es.length ≤ sizeLine := by decide) : EV X c W (.Tuple es x1 pos) (dTup g) := by
  refine ⟨fun ρ k k' E E' hk hE q => h.mn ρ _ _ E E' (fun ds => hk _) hE q, wkE (pe_tup h.pa) ?_⟩
  rintro σ H Q ⟨B, ρ, p, rp, q⟩
  refine ⟨B, ρ, p, rp, h.mn _ _ _ _ _ (fun ds hd vs B1 H1 s1 i1 => ⟨?_, fun q' hq => ?_⟩) (fun _ z => z) (h.len _ _ _ q)⟩
  · rw [i1.length, hd.1]; exact hl
  · have s2 := Step.new s1.pre hq (.tup vs)
    exact hd.2 _ _ _ (s1.trans s2) (.tup upd_same (i1.mono s2.b))
theorem er_lst {g : DL} (h : EA X c W es g) (hl : es.length ≤ sizeLine := by decide) : ER X c W (.List es pos) (dLst g) := by
  refine ⟨fun ρ k k' E E' hk hE q => h.mn ρ _ _ E E' (fun ds => hk _) hE q, wkE (pe_lst h.pa) ?_⟩
  rintro σ H Q ⟨B, ρ, p, rp, q⟩
  refine ⟨B, ρ, p, rp, h.mn _ _ _ _ _ (fun ds hd vs B1 H1 s1 i1 => ⟨?_, fun q' hq => ?_⟩) (fun _ z => z) (h.len _ _ _ q)⟩
  · rw [i1.length, hd.1]; exact hl
  · exact hd.2 _ _ _ (s1.trans (Step.lay s1.pre hq (.lst vs))) (RvOk.up s1 (rv_new upd_same i1 (s1.pre.bnone hq) hq))

/-! ### tests -/
/-- a value's truth -/
def dTru : D → (Bool → Prop) → Prop
  | .non, k => k false
  | .bl b, k => k b
  | .int i, k => k (i != 0)
  | .str y, k => y.length ≤ sizeLine ∧ k ((y.length : Int) != 0)
  | .tup ds, k => k (!ds.isEmpty)
  | .lst ds, k => k (!ds.isEmpty)
  | .ro ds, k => k (!ds.isEmpty)
  | _, _ => False
theorem dTru_mn {d : D} {k k' : Bool → Prop} (h : ∀ b, k b → k' b) (q : dTru d k) : dTru d k' := by
  cases d <;> simp only [dTru] at q ⊢ <;> first | exact h _ q | exact ⟨q.1, h _ q.2⟩ | exact q
theorem IsL.emp {K : PySem.W.Frag} {c : Cn K} {B : Hp} {vs : List V} {ds : List D} (h : IsL c B vs ds) : ds.isEmpty = vs.isEmpty := by cases h <;> rfl
theorem Is.tru {K : PySem.W.Frag} {c : Cn K} {B H : Hp} {v : V} {d : D} {k : Bool → Prop} (h : Is c B v d) (s : Same B H) (q : dTru d k) : ∃ b, TruV K v H b ∧ k b := by
  cases h with
  | non => exact ⟨_, rfl, q⟩
  | bl b => exact ⟨_, rfl, q⟩
  | int i => exact ⟨_, rfl, q⟩
  | str x => exact ⟨_, ⟨q.1, rfl⟩, q.2⟩
  | tup h r => exact ⟨_, .inr (.inl ⟨_, SqT.of (s _ _ h), by rw [r.emp]⟩), q⟩
  | lst h r => exact ⟨_, .inl ⟨_, SqL.of (s _ _ h), by rw [r.emp]⟩, q⟩
  | ro h r => exact ⟨_, .inl ⟨_, Same.l s h, by rw [r.emp]⟩, q⟩
  | obj h o r => exact q.elim
  | fn x => exact q.elim
  | typ n => exact q.elim
  | drw => exact q.elim
  | opq n => exact q.elim
  | dct h => exact q.elim
  | dctT h => exact q.elim
  | flt x => exact q.elim
  | lam h => exact q.elim
  | xcp0 h _ => exact q.elim
  | xcp1 h _ _ _ => exact q.elim
def bTru (f : DV) : DB := fun ρ k E => f ρ (fun d => dTru d k) E
/-- an expression of any kind as a test -/
theorem eb_tru (ha : EV X c W a f) (he : ∀ whole, isTrue a X.env whole = (do let v ← whole; standAt a.pos; holding [v] (truthy v)) := by intro _; rfl) : EB X c W a (bTru f) := by
  refine ⟨fun ρ k k' E E' hk hE q => ha.mn ρ _ _ E E' (fun d => dTru_mn hk) hE q, wkT (pt_truth ha.pe he) ?_⟩
  rintro σ H Q ⟨B, ρ, p, rp, q⟩
  refine ⟨B, ρ, p, rp, ha.mn _ _ _ _ _ (fun d hd v B1 H1 s1 i1 => ?_) (fun _ z => z) q⟩
  obtain ⟨b, h1, h2⟩ := i1.tru s1.bh hd
  exact ⟨b, h1, h2 B1 H1 s1⟩
def bNot (f : DB) : DB := fun ρ k E => f ρ (fun b => k (!b)) E
theorem eb_not {f : DB} (h : EB X c W a f) : EB X c W (.UnaryOp .Not a pos) (bNot f) := by
  refine ⟨fun ρ k k' E E' hk hE q => h.mn ρ _ _ E E' (fun b => hk _) hE q, wkT (pt_not h.pt) ?_⟩
  rintro σ H Q ⟨B, ρ, p, rp, q⟩
  exact ⟨B, ρ, p, rp, q⟩
theorem ew_and1 {f : DB} (h : EB X c W a f) : EW X c W (.BoolOp .And [a] pos) f := ⟨h.mn, pw_and1 h.pt⟩
theorem ew_or1 {f : DB} (h : EB X c W a f) : EW X c W (.BoolOp .Or [a] pos) f := ⟨h.mn, pw_or1 h.pt⟩
def bAnd (f g : DB) : DB := fun ρ k E => f ρ (fun b => (b = true → g ρ k E) ∧ (b = false → k false)) E
def bOr (f g : DB) : DB := fun ρ k E => f ρ (fun b => (b = true → k true) ∧ (b = false → g ρ k E)) E
theorem bAnd_mn {f g : DB} (hf : Mn f) (hg : Mn g) : Mn (bAnd f g) := fun ρ k k' E E' hk hE q => hf ρ _ _ E E' (fun b ⟨q1, q2⟩ => ⟨fun z => hg ρ _ _ E E' hk hE (q1 z), fun z => hk _ (q2 z)⟩) hE q
theorem bOr_mn {f g : DB} (hf : Mn f) (hg : Mn g) : Mn (bOr f g) := fun ρ k k' E E' hk hE q => hf ρ _ _ E E' (fun b ⟨q1, q2⟩ => ⟨fun z => hk _ (q1 z), fun z => hg ρ _ _ E E' hk hE (q2 z)⟩) hE q
theorem ew_and {f g : DB} {rest : List Expr} (ha : EB X c W a f) (hb : EW X c W (.BoolOp .And (b :: rest) pos) g) : EW X c W (.BoolOp .And (a :: b :: rest) pos) (bAnd f g) := by
  refine ⟨bAnd_mn ha.mn hb.mn, wkW (pw_and ha.pt hb.pw) ?_⟩
  rintro σ H Q ⟨B, ρ, p, rp, q⟩
  refine ⟨B, ρ, p, rp, ha.mn _ _ _ _ _ (fun t ht B1 H1 s1 => ?_) (fun _ z => z) q⟩
  cases t with
  | true =>
    rw [if_pos rfl]
    exact ⟨B1, ρ, s1.pre, rp.mono s1.b, hb.mn _ _ _ _ _ (fun u hu B2 H2 s2 => hu B2 H2 (s1.trans s2)) (fun x z => z.step s1) (ht.1 rfl)⟩
  | false =>
    rw [if_neg Bool.false_ne_true]
    exact ht.2 rfl B1 H1 s1
theorem ew_or {f g : DB} {rest : List Expr} (ha : EB X c W a f) (hb : EW X c W (.BoolOp .Or (b :: rest) pos) g) : EW X c W (.BoolOp .Or (a :: b :: rest) pos) (bOr f g) := by
  refine ⟨bOr_mn ha.mn hb.mn, wkW (pw_or ha.pt hb.pw) ?_⟩
  rintro σ H Q ⟨B, ρ, p, rp, q⟩
  refine ⟨B, ρ, p, rp, ha.mn _ _ _ _ _ (fun t ht B1 H1 s1 => ?_) (fun _ z => z) q⟩
  cases t with
  | true =>
    rw [if_pos rfl]
    exact ht.1 rfl B1 H1 s1
  | false =>
    rw [if_neg Bool.false_ne_true]
    exact ⟨B1, ρ, s1.pre, rp.mono s1.b, hb.mn _ _ _ _ _ (fun u hu B2 H2 s2 => hu B2 H2 (s1.trans s2)) (fun x z => z.step s1) (ht.2 rfl)⟩
theorem eb_w {f : DB} (h : EW X c W e f) : EB X c W e f := ⟨h.mn, h.pw.pt⟩
/-- and, or, not as values -/
theorem ev_one {op : BoolOp} (h : EV X c W a f) : EV X c W (.BoolOp op [a] pos) f := ⟨h.mn, pe_one h.pe⟩
def vAnd (f g : DV) : DV := fun ρ k E => f ρ (fun d => dTru d (fun b => (b = true → g ρ k E) ∧ (b = false → k d))) E
def vOr (f g : DV) : DV := fun ρ k E => f ρ (fun d => dTru d (fun b => (b = true → k d) ∧ (b = false → g ρ k E))) E
theorem ev_and {rest : List Expr} (ha : EV X c W a f) (hb : EV X c W (.BoolOp .And (b :: rest) pos) g) : EV X c W (.BoolOp .And (a :: b :: rest) pos) (vAnd f g) := by
  refine ⟨fun ρ k k' E E' hk hE q => ha.mn ρ _ _ E E' (fun d => dTru_mn fun t ⟨q1, q2⟩ => ⟨fun z => hb.mn ρ _ _ E E' hk hE (q1 z), fun z => hk _ (q2 z)⟩) hE q, wkE (pe_andT ha.pe hb.pe) ?_⟩
  rintro σ H Q ⟨B, ρ, p, rp, q⟩
  refine ⟨B, ρ, p, rp, ha.mn _ _ _ _ _ (fun d hd v B1 H1 s1 i1 => ?_) (fun _ z => z) q⟩
  obtain ⟨t, h1, h2⟩ := i1.tru s1.bh hd
  refine ⟨t, h1, ?_⟩
  cases t with
  | true =>
    rw [if_pos rfl]
    exact ⟨B1, ρ, s1.pre, rp.mono s1.b, hb.mn _ _ _ _ _ (fun u hu y B2 H2 s2 i2 => hu y B2 H2 (s1.trans s2) i2) (fun x z => z.step s1) (h2.1 rfl)⟩
  | false =>
    rw [if_neg Bool.false_ne_true]
    exact h2.2 rfl _ B1 H1 s1 i1
theorem ev_or {rest : List Expr} (ha : EV X c W a f) (hb : EV X c W (.BoolOp .Or (b :: rest) pos) g) : EV X c W (.BoolOp .Or (a :: b :: rest) pos) (vOr f g) := by
  refine ⟨fun ρ k k' E E' hk hE q => ha.mn ρ _ _ E E' (fun d => dTru_mn fun t ⟨q1, q2⟩ => ⟨fun z => hk _ (q1 z), fun z => hb.mn ρ _ _ E E' hk hE (q2 z)⟩) hE q, wkE (pe_orT ha.pe hb.pe) ?_⟩
  rintro σ H Q ⟨B, ρ, p, rp, q⟩
  refine ⟨B, ρ, p, rp, ha.mn _ _ _ _ _ (fun d hd v B1 H1 s1 i1 => ?_) (fun _ z => z) q⟩
  obtain ⟨t, h1, h2⟩ := i1.tru s1.bh hd
  refine ⟨t, h1, ?_⟩
  cases t with
  | true =>
    rw [if_pos rfl]
    exact h2.1 rfl _ B1 H1 s1 i1
  | false =>
    rw [if_neg Bool.false_ne_true]
    exact ⟨B1, ρ, s1.pre, rp.mono s1.b, hb.mn _ _ _ _ _ (fun u hu y B2 H2 s2 i2 => hu y B2 H2 (s1.trans s2) i2) (fun x z => z.step s1) (h2.2 rfl)⟩
def vNot (f : DV) : DV := fun ρ k E => f ρ (fun d => dTru d (fun b => k (.bl (!b)))) E
theorem ev_not (ha : EV X c W a f) : EV X c W (.UnaryOp .Not a pos) (vNot f) := by
  refine ⟨fun ρ k k' E E' hk hE q => ha.mn ρ _ _ E E' (fun d => dTru_mn fun t => hk _) hE q, wkE (pe_notT ha.pe) ?_⟩
  rintro σ H Q ⟨B, ρ, p, rp, q⟩
  refine ⟨B, ρ, p, rp, ha.mn _ _ _ _ _ (fun d hd v B1 H1 s1 i1 => ?_) (fun _ z => z) q⟩
  obtain ⟨t, h1, h2⟩ := i1.tru s1.bh hd
  exact ⟨t, h1, h2 _ B1 H1 s1 (.bl _)⟩
/-- a if t else b -/
def rIf (t : DB) (f g : DR) : DR := fun ρ k E => t ρ (fun b => (b = true → f ρ k E) ∧ (b = false → g ρ k E)) E
theorem er_if {t : DB} {f g : DR} {x : Expr} (ht : EB X c W x t) (ha : ER X c W a f) (hb : ER X c W b g) : ER X c W (.IfExp x a b pos) (rIf t f g) := by
  refine ⟨fun ρ k k' E E' hk hE q => ht.mn ρ _ _ E E' (fun b ⟨q1, q2⟩ => ⟨fun z => ha.mn ρ _ _ E E' hk hE (q1 z), fun z => hb.mn ρ _ _ E E' hk hE (q2 z)⟩) hE q, wkE (pe_ifExp ht.pt ha.pe hb.pe) ?_⟩
  rintro σ H Q ⟨B, ρ, p, rp, q⟩
  refine ⟨B, ρ, p, rp, ht.mn _ _ _ _ _ (fun t' hd B1 H1 s1 => ?_) (fun _ z => z) q⟩
  cases t' with
  | true =>
    rw [if_pos rfl]
    exact ⟨B1, ρ, s1.pre, rp.mono s1.b, ha.mn _ _ _ _ _ (fun u hu y B2 H2 s2 i2 => hu y B2 H2 (s1.trans s2) (i2.up s1)) (fun x z => z.step s1) (hd.1 rfl)⟩
  | false =>
    rw [if_neg Bool.false_ne_true]
    exact ⟨B1, ρ, s1.pre, rp.mono s1.b, hb.mn _ _ _ _ _ (fun u hu y B2 H2 s2 i2 => hu y B2 H2 (s1.trans s2) (i2.up s1)) (fun x z => z.step s1) (hd.2 rfl)⟩
def vIf (t : DB) (f g : DV) : DV := fun ρ k E => t ρ (fun b => (b = true → f ρ k E) ∧ (b = false → g ρ k E)) E
theorem ev_if {t : DB} {x : Expr} (ht : EB X c W x t) (ha : EV X c W a f) (hb : EV X c W b g) : EV X c W (.IfExp x a b pos) (vIf t f g) := by
  refine ⟨fun ρ k k' E E' hk hE q => ht.mn ρ _ _ E E' (fun b ⟨q1, q2⟩ => ⟨fun z => ha.mn ρ _ _ E E' hk hE (q1 z), fun z => hb.mn ρ _ _ E E' hk hE (q2 z)⟩) hE q, wkE (pe_ifExp ht.pt ha.pe hb.pe) ?_⟩
  rintro σ H Q ⟨B, ρ, p, rp, q⟩
  refine ⟨B, ρ, p, rp, ht.mn _ _ _ _ _ (fun t' hd B1 H1 s1 => ?_) (fun _ z => z) q⟩
  cases t' with
  | true =>
    rw [if_pos rfl]
    exact ⟨B1, ρ, s1.pre, rp.mono s1.b, ha.mn _ _ _ _ _ (fun u hu y B2 H2 s2 i2 => hu y B2 H2 (s1.trans s2) i2) (fun x z => z.step s1) (hd.1 rfl)⟩
  | false =>
    rw [if_neg Bool.false_ne_true]
    exact ⟨B1, ρ, s1.pre, rp.mono s1.b, hb.mn _ _ _ _ _ (fun u hu y B2 H2 s2 i2 => hu y B2 H2 (s1.trans s2) i2) (fun x z => z.step s1) (hd.2 rfl)⟩

/-! ### subscripts -/
theorem atI_is {K : PySem.W.Frag} {c : Cn K} {B : Hp} {vs : List V} {ds : List D} {i : Int} {z : D} (h : IsL c B vs ds) (e : atI ds i = some z) : ∃ v, atI vs i = some v ∧ Is c B v z := by
  unfold atI at e ⊢
  rw [h.length]
  cases q : ixN ds.length i with
  | none => rw [q] at e; cases e
  | some j =>
    rw [q] at e
    exact h.get (i := j) e
def dIx : D → D → (Rv → Prop) → Prop
  | .tup ds, .int i, k => ∃ z, atI ds i = some z ∧ k (.val z)
  | .lst ds, .int i, k => ∃ z, atI ds i = some z ∧ k (.val z)
  | .ro ds, .int i, k => ∃ z, atI ds i = some z ∧ k (.val z)
  | .str y, .int i, k => ∃ z, y.length ≤ sizeLine ∧ atI y.cps.toList i = some z ∧ k (.val (.str ⟨#[z]⟩))
  | _, _, _ => False
theorem opn_ix : OpN c (rIx X.K) dIx := by
  refine ⟨fun d e k k' hk q => ?_, ?_⟩
  · unfold dIx at q ⊢
    split at q
    · exact let ⟨z, h1, h2⟩ := q; ⟨z, h1, hk _ h2⟩
    · exact let ⟨z, h1, h2⟩ := q; ⟨z, h1, hk _ h2⟩
    · exact let ⟨z, h1, h2⟩ := q; ⟨z, h1, hk _ h2⟩
    · exact let ⟨z, h0, h1, h2⟩ := q; ⟨z, h0, h1, hk _ h2⟩
    · exact q
  · intro B H x y d e Q k p hx hy q K
    unfold dIx at q
    split at q
    · obtain ⟨z, h1, h2⟩ := q
      cases hy
      cases hx with
      | tup h r =>
        obtain ⟨v, h3, h4⟩ := atI_is r h1
        exact .inr (.inl ⟨_, _, _, v, rfl, rfl, SqT.of (p.bh _ _ h), h3, K _ B H _ (Step.refl p) (rv_val h4) h2⟩)
    · obtain ⟨z, h1, h2⟩ := q
      cases hy
      cases hx with
      | lst h r =>
        obtain ⟨v, h3, h4⟩ := atI_is r h1
        exact .inl ⟨_, _, _, v, rfl, rfl, SqL.of (p.bh _ _ h), h3, K _ B H _ (Step.refl p) (rv_val h4) h2⟩
    · obtain ⟨z, h1, h2⟩ := q
      cases hy
      cases hx with
      | ro h r =>
        obtain ⟨v, h3, h4⟩ := atI_is r h1
        exact .inl ⟨_, _, _, v, rfl, rfl, Same.l p.bh h, h3, K _ B H _ (Step.refl p) (rv_val h4) h2⟩
    · obtain ⟨z, h0, h1, h2⟩ := q
      cases hy; cases hx
      exact .inr (.inr ⟨_, _, z, rfl, rfl, h0, h1, K _ B H _ (Step.refl p) (rv_val (.str _)) h2⟩)
    · exact q.elim
theorem er_ix (ha : EV X c W a f) (hb : EV X c W b g) (hs : PlainIx b := by exact fun _ _ => rfl) : ER X c W (.Subscript a b pos) (rBin f g dIx) :=
  ⟨(rbin_ok ha hb opn_ix).1, wkE (pe_ix ix_seq ha.pe hb.pe hs) (rbin_ok ha hb opn_ix).2⟩
theorem ev_ix (ha : EV X c W a f) (hb : EV X c W b g) (hs : PlainIx b := by exact fun _ _ => rfl) : EV X c W (.Subscript a b pos) (vR (rBin f g dIx)) := (er_ix ha hb hs).v
/-- a part of a slice -/
abbrev DO := View → (Option Int → Prop) → (Exn → Prop) → Prop
def tO {K : PySem.W.Frag} (c : Cn K) (W : WX) (f : DO) : TO := fun σ H Q => ∃ B ρ, Pre c B H ∧ RepV c B σ ρ ∧ f ρ (fun o => ∀ B' H', Step c B H B' H' → Q o H') (XK c W B H)
structure EO (X : Cx) (c : Cn X.K) (W : WX) (e : Option Expr) (f : DO) : Prop where
  mn : Mn f
  po : PO X e (tO c W f)
theorem wkO {X : Cx} {e : Option Expr} {t t' : TO} (p : PO X e t) (w : ∀ σ H Q, t' σ H Q → t σ H Q) : PO X e t' := ⟨fun pins s σ H Q I h => p.run pins s σ H Q I (w _ _ _ h)⟩
def oNone : DO := fun _ k _ => k none
def oSome (f : DV) : DO := fun ρ k E => f ρ (fun d => ∃ i, d = .int i ∧ k (some i)) E
theorem eo_none : EO X c W none oNone := ⟨fun ρ k k' E E' hk hE q => hk _ q, wkO po_none fun σ H Q ⟨B, ρ, p, rp, q⟩ => q B H (Step.refl p)⟩
theorem eo_some (h : EV X c W e f) : EO X c W (some e) (oSome f) := by
  refine ⟨fun ρ k k' E E' hk hE q => h.mn ρ _ _ E E' (fun d ⟨i, h1, h2⟩ => ⟨i, h1, hk _ h2⟩) hE q, wkO (po_some h.pe) ?_⟩
  rintro σ H Q ⟨B, ρ, p, rp, q⟩
  refine ⟨B, ρ, p, rp, h.mn _ _ _ _ _ (fun d ⟨i, h1, h2⟩ v B1 H1 s1 i1 => ?_) (fun _ z => z) q⟩
  subst h1; cases i1
  exact ⟨i, rfl, h2 B1 H1 s1⟩
/-- xs[lo:hi] -/
def cutD (xs : List D) (lo hi : Option Int) : List D := (xs.drop (HT.sIx xs.length 0 lo)).take (HT.sIx xs.length xs.length hi - HT.sIx xs.length 0 lo)
theorem IsL.cut {K : PySem.W.Frag} {c : Cn K} {B : Hp} {vs : List V} {ds : List D} (h : IsL c B vs ds) (lo hi : Option Int) : IsL c B (cutV vs lo hi) (cutD ds lo hi) := by
  unfold cutV cutD
  rw [h.length]
  exact (h.drop _).take _
def dCut (d : D) (lo hi : Option Int) (k : Rv → Prop) : Prop :=
  match d with
  | .lst ds => k (.new (cutD ds lo hi))
  | .ro ds => k (.new (cutD ds lo hi))
  | .tup ds => k (.val (.tup (cutD ds lo hi)))
  | _ => False
def rCut (f : DV) (g h : DO) : DR := fun ρ k E => f ρ (fun d => g ρ (fun lo => h ρ (fun hi => dCut d lo hi k) E) E) E
theorem cut_whole {α : Type} (xs : List α) {a b : Nat} (h1 : a = 0) (h2 : b = xs.length) : (xs.drop a).take (b - a) = xs := by subst h1; subst h2; simp
theorem er_cut {g h : DO} {lo hi : Option Expr} {p2 : Pos} (ha : EV X c W a f) (hl : EO X c W lo g) (hh : EO X c W hi h) : ER X c W (.Subscript a (.Slice lo hi none p2) pos) (rCut f g h) := by
  have dm : ∀ (d : D) lo hi (k k' : Rv → Prop), (∀ z, k z → k' z) → dCut d lo hi k → dCut d lo hi k' := fun d lo hi k k' hk q => by
    unfold dCut at q ⊢
    split at q <;> first | exact hk _ q | exact q
  refine ⟨fun ρ k k' E E' hk hE q => ha.mn ρ _ _ E E' (fun d q => hl.mn ρ _ _ E E' (fun l q => hh.mn ρ _ _ E E' (fun u q => dm d l u k k' hk q) hE q) hE q) hE q, wkE (pe_slice (SlR.or sl_list sl_tupA) ha.pe hl.po hh.po) ?_⟩
  rintro σ H Q ⟨B, ρ, p, rp, q⟩
  refine ⟨B, ρ, p, rp, ha.mn _ _ _ _ _ (fun d hd v B1 H1 s1 i1 => ?_) (fun _ z => z) q⟩
  refine ⟨B1, ρ, s1.pre, rp.mono s1.b, hl.mn _ _ _ _ _ (fun l hl' B2 H2 s2 => ?_) (fun x z => z.step s1) hd⟩
  refine ⟨B2, ρ, s2.pre, (rp.mono s1.b).mono s2.b, hh.mn _ _ _ _ _ (fun u hu B3 H3 s3 => ?_) (fun x z => z.step (s1.trans s2)) hl'⟩
  have i3 := i1.mono (fun a o e => s3.b a o (s2.b a o e))
  have st := s1.trans (s2.trans s3)
  unfold dCut at hu
  split at hu
  · cases i3 with
    | lst h r => exact .inl ⟨_, _, rfl, SqL.of (s3.bh _ _ h), fun q' hq => hu _ _ _ (st.trans (Step.lay s3.pre hq _)) (RvOk.up st (rv_new upd_same (r.cut l u) (s3.pre.bnone hq) hq))⟩
  · cases i3 with
    | ro h r => exact .inl ⟨_, _, rfl, Same.l s3.bh h, fun q' hq => hu _ _ _ (st.trans (Step.lay s3.pre hq _)) (RvOk.up st (rv_new upd_same (r.cut l u) (s3.pre.bnone hq) hq))⟩
  · cases i3 with
    | tup h r =>
      refine .inr ⟨_, _, rfl, SqT.of (s3.bh _ _ h), fun ⟨h1, h2⟩ => ?_, fun _ q' hq => ?_⟩
      · refine hu _ _ _ st (rv_val (.tup h ?_))
        have e : cutD _ l u = _ := cut_whole _ (by rw [← r.length]; exact h1) (by rw [← r.length]; exact h2)
        rw [e]; exact r
      · exact hu _ _ _ (st.trans (Step.new s3.pre hq _)) (rv_val (.tup upd_same ((r.cut l u).mono (Same.new (s3.pre.bnone hq)))))
  · exact hu.elim

/-! ### calls of built-ins -/
def CallD {K : PySem.W.Frag} (c : Cn K) (r : List V → Hp → VK → Prop) (od : List D → (Rv → Prop) → Prop) : Prop :=
  (∀ ds (k k' : Rv → Prop), (∀ z, k z → k' z) → od ds k → od ds k') ∧
  ∀ B H vs ds (Q : VK) (k : Rv → Prop), Pre c B H → IsL c B vs ds → od ds k → (∀ z B' H' u, Step c B H B' H' → RvOk c H B' H' z u → k u → Q z H') → r vs H Q
def rCall (g : DL) (od : List D → (Rv → Prop) → Prop) : DR := fun ρ k E => g ρ (fun ds => od ds k) E
theorem rcall_ok {g : DL} {r : List V → Hp → VK → Prop} {od : List D → (Rv → Prop) → Prop} (hd : CallD c r od) (ha : EA X c W es g) : Mn (rCall g od) ∧ ∀ σ H Q, tR c W (rCall g od) σ H Q → tCB r (tL c W g) σ H Q := by
  refine ⟨fun ρ k k' E E' hk hE q => ha.mn ρ _ _ E E' (fun ds => hd.1 ds k k' hk) hE q, ?_⟩
  rintro σ H Q ⟨B, ρ, p, rp, q⟩
  refine ⟨B, ρ, p, rp, ha.mn _ _ _ _ _ (fun ds hds vs B1 H1 s1 i1 => ?_) (fun _ z => z) q⟩
  exact hd.2 B1 H1 vs ds Q _ s1.pre i1 hds fun z B' H' u s2 i2 hk => hk z B' H' (s1.trans s2) (i2.up s1)
theorem er_callB {g : DL} {id : String} {r : List V → Hp → VK → Prop} {od : List D → (Rv → Prop) → Prop} {x : Str} {p : Pos} (hc : CallR X (.builtin id) r) (hd : CallD c r od) (hg : Gl X x) (hm : X.mg x = none) (hv : bootBuiltins x = some (.builtin id))
    (ha : EA X c W (e :: es) g) (hn : x ≠ "__name__" := by decide) (hdb : (x == ("__debug__" : Str)) = false := by decide) (he : starEach (e :: es) X.env = (false, eval e X.env) :: starEach es X.env := by rfl) (hpl : (backTo pos (starEach es X.env)).any (·.1) = false := by rfl) :
    ER X c W (.Call (.Name x p) (e :: es) [] pos) (rCall g od) :=
  ⟨(rcall_ok hd ha).1, wkE (pe_callB hc hg hm hv ha.pa hn hdb he hpl) (rcall_ok hd ha).2⟩
theorem er_callTy {g : DL} {T : String} {r : List V → Hp → VK → Prop} {od : List D → (Rv → Prop) → Prop} {x : Str} {p : Pos} (hc : CallR X (.type T) r) (hd : CallD c r od) (hg : Gl X x) (hm : X.mg x = none) (hv : bootBuiltins x = some (.type T))
    (ha : EA X c W (e :: es) g) (hn : x ≠ "__name__" := by decide) (hdb : (x == ("__debug__" : Str)) = false := by decide) (he : starEach (e :: es) X.env = (false, eval e X.env) :: starEach es X.env := by rfl) (hpl : (backTo pos (starEach es X.env)).any (·.1) = false := by rfl) :
    ER X c W (.Call (.Name x p) (e :: es) [] pos) (rCall g od) :=
  ⟨(rcall_ok hd ha).1, wkE (pe_callTy hc hg hm hv ha.pa hn hdb he hpl) (rcall_ok hd ha).2⟩
theorem er_callM {g : DL} {id : String} {r : List V → Hp → VK → Prop} {od : List D → (Rv → Prop) → Prop} {x : Str} {p : Pos} (hc : CallR X (.builtin id) r) (hd : CallD c r od) (hg : Gl X x) (hm : X.mg x = some (.builtin id))
    (ha : EA X c W (e :: es) g) (hdb : (x == ("__debug__" : Str)) = false := by decide) (he : starEach (e :: es) X.env = (false, eval e X.env) :: starEach es X.env := by rfl) (hpl : (backTo pos (starEach es X.env)).any (·.1) = false := by rfl) :
    ER X c W (.Call (.Name x p) (e :: es) [] pos) (rCall g od) :=
  ⟨(rcall_ok hd ha).1, wkE (pe_callBfun hc hg hm ha.pa hdb he hpl) (rcall_ok hd ha).2⟩
theorem Is1 {K : PySem.W.Frag} {c : Cn K} {B : Hp} {vs : List V} {d : D} (h : IsL c B vs [d]) : ∃ v, vs = [v] ∧ Is c B v d := by
  cases h with
  | cons r t => cases t; exact ⟨_, rfl, r⟩
theorem Is2 {K : PySem.W.Frag} {c : Cn K} {B : Hp} {vs : List V} {d e : D} (h : IsL c B vs [d, e]) : ∃ v w, vs = [v, w] ∧ Is c B v d ∧ Is c B w e := by
  cases h with
  | cons r t =>
    obtain ⟨w, rfl, r2⟩ := Is1 t
    exact ⟨_, w, rfl, r, r2⟩
/-- of one argument -/
def on1 (o : D → (Rv → Prop) → Prop) : List D → (Rv → Prop) → Prop
  | [d], k => o d k
  | _, _ => False
def on2 (o : D → D → (Rv → Prop) → Prop) : List D → (Rv → Prop) → Prop
  | [d, e], k => o d e k
  | _, _ => False
theorem calld1 {r : List V → Hp → VK → Prop} {o : D → (Rv → Prop) → Prop} (hm : ∀ d (k k' : Rv → Prop), (∀ z, k z → k' z) → o d k → o d k')
    (h : ∀ B H v d (Q : VK) (k : Rv → Prop), Pre c B H → Is c B v d → o d k → (∀ z B' H' u, Step c B H B' H' → RvOk c H B' H' z u → k u → Q z H') → r [v] H Q) : CallD c r (on1 o) := by
  refine ⟨fun ds k k' hk q => ?_, fun B H vs ds Q k p i q K => ?_⟩
  · unfold on1 at q ⊢
    split at q
    · exact hm _ k k' hk q
    · exact q
  · unfold on1 at q
    split at q
    · obtain ⟨v, rfl, i1⟩ := Is1 i
      exact h B H v _ Q k p i1 q K
    · exact q.elim
theorem calld2 {r : List V → Hp → VK → Prop} {o : D → D → (Rv → Prop) → Prop} (hm : ∀ d e (k k' : Rv → Prop), (∀ z, k z → k' z) → o d e k → o d e k')
    (h : ∀ B H v w d e (Q : VK) (k : Rv → Prop), Pre c B H → Is c B v d → Is c B w e → o d e k → (∀ z B' H' u, Step c B H B' H' → RvOk c H B' H' z u → k u → Q z H') → r [v, w] H Q) : CallD c r (on2 o) := by
  refine ⟨fun ds k k' hk q => ?_, fun B H vs ds Q k p i q K => ?_⟩
  · unfold on2 at q ⊢
    split at q
    · exact hm _ _ k k' hk q
    · exact q
  · unfold on2 at q
    split at q
    · obtain ⟨v, w, rfl, i1, i2⟩ := Is2 i
      exact h B H v w _ _ Q k p i1 i2 q K
    · exact q.elim
def dLen : D → (Rv → Prop) → Prop
  | .tup ds, k => k (.val (.int ds.length))
  | .lst ds, k => k (.val (.int ds.length))
  | .ro ds, k => k (.val (.int ds.length))
  | .str y, k => y.length ≤ sizeLine ∧ k (.val (.int y.length))
  | _, _ => False
theorem cd_len : CallD c (fun xs H Q => ∃ x n, xs = [x] ∧ LenV X.K x H n ∧ Q (.int n) H) (on1 dLen) := by
  refine calld1 (fun d k k' hk q => ?_) fun B H v d Q k p i q K => ?_
  · cases d <;> simp only [dLen] at q ⊢ <;> first | exact hk _ q | exact ⟨q.1, hk _ q.2⟩ | exact q
  · cases i with
    | tup h r => exact ⟨_, _, rfl, .inr ⟨_, SqT.of (p.bh _ _ h), rfl⟩, K _ B H _ (Step.refl p) (rv_val (.int _)) (by rw [r.length]; exact q)⟩
    | lst h r => exact ⟨_, _, rfl, .inl ⟨_, SqL.of (p.bh _ _ h), rfl⟩, K _ B H _ (Step.refl p) (rv_val (.int _)) (by rw [r.length]; exact q)⟩
    | ro h r => exact ⟨_, _, rfl, .inl ⟨_, Same.l p.bh h, rfl⟩, K _ B H _ (Step.refl p) (rv_val (.int _)) (by rw [r.length]; exact q)⟩
    | str x => exact ⟨_, _, rfl, ⟨q.1, rfl⟩, K _ B H _ (Step.refl p) (rv_val (.int _)) q.2⟩
    | _ => exact q.elim
theorem er_len {g : DL} {p : Pos} (hg : Gl X "len") (hm : X.mg "len" = none) (ha : EA X c W [e] g) (hs : starEach [e] X.env = (false, eval e X.env) :: starEach [] X.env := by rfl) : ER X c W (.Call (.Name "len" p) [e] [] pos) (rCall g (on1 dLen)) :=
  er_callB call_len cd_len hg hm PySem.boot_len ha (by decide) (by decide) hs (by rfl)
/-- one whole number to one -/
def i1 (g : Int → Int) : D → (Rv → Prop) → Prop
  | .int i, k => k (.val (.int (g i)))
  | _, _ => False
theorem i1_mn {g : Int → Int} : ∀ d (k k' : Rv → Prop), (∀ z, k z → k' z) → i1 g d k → i1 g d k' := fun d k k' hk q => by
  cases d <;> simp only [i1] at q ⊢ <;> first | exact hk _ q | exact q
def iAbs (i : Int) : Int := if i < 0 then -i else i
theorem cd_abs : CallD c (fun xs H Q => ∃ i, xs = [.int i] ∧ Q (.int (if i < 0 then -i else i)) H) (on1 (i1 iAbs)) := by
  refine calld1 i1_mn fun B H v d Q k p i q K => ?_
  cases i with
  | int i => exact ⟨i, rfl, K _ B H _ (Step.refl p) (rv_val (.int _)) q⟩
  | _ => exact q.elim
def dInt : D → (Rv → Prop) → Prop
  | .int i, k => k (.val (.int i))
  | .bl b, k => k (.val (.int (if b then 1 else 0)))
  | _, _ => False
theorem cd_int : CallD c (fun xs H Q => (∃ i, xs = [.int i] ∧ Q (.int i) H) ∨ ∃ k, xs = [.bl k] ∧ Q (.int (if k then 1 else 0)) H) (on1 dInt) := by
  refine calld1 (fun d k k' hk q => ?_) fun B H v d Q k p i q K => ?_
  · cases d <;> simp only [dInt] at q ⊢ <;> first | exact hk _ q | exact q
  · cases i with
    | int i => exact .inl ⟨i, rfl, K _ B H _ (Step.refl p) (rv_val (.int _)) q⟩
    | bl b => exact .inr ⟨b, rfl, K _ B H _ (Step.refl p) (rv_val (.int _)) q⟩
    | _ => exact q.elim
def i2 (g : Int → Int → Int) : D → D → (Rv → Prop) → Prop
  | .int i, .int j, k => k (.val (.int (g i j)))
  | _, _, _ => False
theorem i2_mn {g : Int → Int → Int} : ∀ d e (k k' : Rv → Prop), (∀ z, k z → k' z) → i2 g d e k → i2 g d e k' := fun d e k k' hk q => by
  unfold i2 at q ⊢
  split at q
  · exact hk _ q
  · exact q
theorem cd_i2 {g : Int → Int → Int} : CallD c (fun xs H Q => ∃ i j, xs = [.int i, .int j] ∧ Q (.int (g i j)) H) (on2 (i2 g)) := by
  refine calld2 i2_mn fun B H v w d e Q k p i j q K => ?_
  unfold i2 at q
  split at q
  · cases i; cases j
    exact ⟨_, _, rfl, K _ B H _ (Step.refl p) (rv_val (.int _)) q⟩
  · exact q.elim
def iMax (i j : Int) : Int := if j > i then j else i
def iMin (i j : Int) : Int := if j < i then j else i
def iGcd (i j : Int) : Int := ((Nat.gcd i.natAbs j.natAbs : Nat) : Int)
/-- a list of whole numbers -/
def D.ints : List D → Option (List Int)
  | [] => some []
  | .int i :: r => (D.ints r).map (i :: ·)
  | _ => none
theorem ints_vals {K : PySem.W.Frag} {c : Cn K} {B : Hp} : ∀ {vs : List V} {ds : List D} {ns : List Int}, IsL c B vs ds → D.ints ds = some ns → vs = ns.map V.int
  | _, _, ns, .nil, e => by
    simp only [D.ints, Option.some.injEq] at e
    subst e; rfl
  | _, d :: ds, ns, .cons r t, e => by
    cases r with
    | int i =>
      simp only [D.ints, Option.map_eq_some_iff] at e
      obtain ⟨ms, e1, rfl⟩ := e
      rw [ints_vals t e1]; rfl
    | _ => simp [D.ints] at e
def D.bls : List D → Option (List Bool)
  | [] => some []
  | .bl i :: r => (D.bls r).map (i :: ·)
  | _ => none
theorem bls_vals {K : PySem.W.Frag} {c : Cn K} {B : Hp} : ∀ {vs : List V} {ds : List D} {ns : List Bool}, IsL c B vs ds → D.bls ds = some ns → vs = ns.map V.bl
  | _, _, ns, .nil, e => by
    simp only [D.bls, Option.some.injEq] at e
    subst e; rfl
  | _, d :: ds, ns, .cons r t, e => by
    cases r with
    | bl i =>
      simp only [D.bls, Option.map_eq_some_iff] at e
      obtain ⟨ms, e1, rfl⟩ := e
      rw [bls_vals t e1]; rfl
    | _ => simp [D.bls] at e
def dSum : D → (Rv → Prop) → Prop
  | .lst ds, k => ∃ ns, D.ints ds = some ns ∧ k (.val (.int ns.sum))
  | _, _ => False
theorem cd_sum : CallD c (rSum X.K) (on1 dSum) := by
  refine calld1 (fun d k k' hk q => ?_) fun B H v d Q k p i q K => ?_
  · cases d <;> simp only [dSum] at q ⊢ <;> first | exact (let ⟨ns, h1, h2⟩ := q; ⟨ns, h1, hk _ h2⟩) | exact q
  · cases i with
    | lst h r =>
      obtain ⟨ns, h1, h2⟩ := q
      have e := ints_vals r h1
      subst e
      exact ⟨_, ns, rfl, SqL.of (p.bh _ _ h), K _ B H _ (Step.refl p) (rv_val (.int _)) h2⟩
    | _ => exact q.elim
def dAll : D → (Rv → Prop) → Prop
  | .lst ds, k => ∃ bs, D.bls ds = some bs ∧ k (.val (.bl (bs.all id)))
  | _, _ => False
def dAny : D → (Rv → Prop) → Prop
  | .lst ds, k => ∃ bs, D.bls ds = some bs ∧ k (.val (.bl (bs.any id)))
  | _, _ => False
theorem cd_all : CallD c (rAll X.K) (on1 dAll) := by
  refine calld1 (fun d k k' hk q => ?_) fun B H v d Q k p i q K => ?_
  · cases d <;> simp only [dAll] at q ⊢ <;> first | exact (let ⟨ns, h1, h2⟩ := q; ⟨ns, h1, hk _ h2⟩) | exact q
  · cases i with
    | lst h r =>
      obtain ⟨ns, h1, h2⟩ := q
      have e := bls_vals r h1
      subst e
      exact ⟨_, ns, rfl, SqL.of (p.bh _ _ h), K _ B H _ (Step.refl p) (rv_val (.bl _)) h2⟩
    | _ => exact q.elim
theorem cd_any : CallD c (rAny X.K) (on1 dAny) := by
  refine calld1 (fun d k k' hk q => ?_) fun B H v d Q k p i q K => ?_
  · cases d <;> simp only [dAny] at q ⊢ <;> first | exact (let ⟨ns, h1, h2⟩ := q; ⟨ns, h1, hk _ h2⟩) | exact q
  · cases i with
    | lst h r =>
      obtain ⟨ns, h1, h2⟩ := q
      have e := bls_vals r h1
      subst e
      exact ⟨_, ns, rfl, SqL.of (p.bh _ _ h), K _ B H _ (Step.refl p) (rv_val (.bl _)) h2⟩
    | _ => exact q.elim
/-- the greatest, the least of a list -/
def dMaxL : D → (Rv → Prop) → Prop
  | .lst ds, k => ∃ ns, D.ints ds = some ns ∧ 0 < ns.length ∧ ∀ m, m ∈ ns → (∀ y, y ∈ ns → y ≤ m) → k (.val (.int m))
  | _, _ => False
def dMinL : D → (Rv → Prop) → Prop
  | .lst ds, k => ∃ ns, D.ints ds = some ns ∧ 0 < ns.length ∧ ∀ m, m ∈ ns → (∀ y, y ∈ ns → m ≤ y) → k (.val (.int m))
  | _, _ => False
theorem cd_maxL : CallD c (rMax X.K) (on1 dMaxL) := by
  refine calld1 (fun d k k' hk q => ?_) fun B H v d Q k p i q K => ?_
  · cases d <;> simp only [dMaxL] at q ⊢ <;> first | exact (let ⟨ns, h1, h2, h3⟩ := q; ⟨ns, h1, h2, fun m a b => hk _ (h3 m a b)⟩) | exact q
  · cases i with
    | lst h r =>
      obtain ⟨ns, h1, h2, h3⟩ := q
      have e := ints_vals r h1
      subst e
      exact ⟨_, ns, rfl, SqL.of (p.bh _ _ h), h2, fun m a b => K _ B H _ (Step.refl p) (rv_val (.int _)) (h3 m a b)⟩
    | _ => exact q.elim
theorem cd_minL : CallD c (rMin X.K) (on1 dMinL) := by
  refine calld1 (fun d k k' hk q => ?_) fun B H v d Q k p i q K => ?_
  · cases d <;> simp only [dMinL] at q ⊢ <;> first | exact (let ⟨ns, h1, h2, h3⟩ := q; ⟨ns, h1, h2, fun m a b => hk _ (h3 m a b)⟩) | exact q
  · cases i with
    | lst h r =>
      obtain ⟨ns, h1, h2, h3⟩ := q
      have e := ints_vals r h1
      subst e
      exact ⟨_, ns, rfl, SqL.of (p.bh _ _ h), h2, fun m a b => K _ B H _ (Step.refl p) (rv_val (.int _)) (h3 m a b)⟩
    | _ => exact q.elim
/-- list(xs), tuple(xs) -/
def dList : D → (Rv → Prop) → Prop
  | .lst ds, k => k (.new ds)
  | .ro ds, k => k (.new ds)
  | .tup ds, k => k (.new ds)
  | _, _ => False
theorem cd_list : CallD c (fun xs H Q => ∃ p ys, xs = [.ref p] ∧ (SqL X.K H p ys ∨ SqT X.K H p ys) ∧ ∀ l, H l = none → Q (.ref l) (upd H l (.lst ys))) (on1 dList) := by
  refine calld1 (fun d k k' hk q => ?_) fun B H v d Q k p i q K => ?_
  · cases d <;> simp only [dList] at q ⊢ <;> first | exact hk _ q | exact q
  · cases i with
    | tup h r => exact ⟨_, _, rfl, .inr (SqT.of (p.bh _ _ h)), fun l hl => K _ _ _ _ (Step.lay p hl _) (rv_new upd_same r (p.bnone hl) hl) q⟩
    | lst h r => exact ⟨_, _, rfl, .inl (SqL.of (p.bh _ _ h)), fun l hl => K _ _ _ _ (Step.lay p hl _) (rv_new upd_same r (p.bnone hl) hl) q⟩
    | ro h r => exact ⟨_, _, rfl, .inl (Same.l p.bh h), fun l hl => K _ _ _ _ (Step.lay p hl _) (rv_new upd_same r (p.bnone hl) hl) q⟩
    | _ => exact q.elim
def dTuple : D → (Rv → Prop) → Prop
  | .lst ds, k => k (.val (.tup ds))
  | .ro ds, k => k (.val (.tup ds))
  | .tup ds, k => k (.val (.tup ds))
  | _, _ => False
theorem cd_tuple : CallD c (fun xs H Q => ∃ p ys, xs = [.ref p] ∧ ((SqL X.K H p ys ∧ ∀ l, H l = none → Q (.ref l) (upd H l (.tup ys))) ∨ (SqT X.K H p ys ∧ Q (.ref p) H))) (on1 dTuple) := by
  refine calld1 (fun d k k' hk q => ?_) fun B H v d Q k p i q K => ?_
  · cases d <;> simp only [dTuple] at q ⊢ <;> first | exact hk _ q | exact q
  · cases i with
    | tup h r => exact ⟨_, _, rfl, .inr ⟨SqT.of (p.bh _ _ h), K _ B H _ (Step.refl p) (rv_val (.tup h r)) q⟩⟩
    | lst h r => exact ⟨_, _, rfl, .inl ⟨SqL.of (p.bh _ _ h), fun l hl => K _ _ _ _ (Step.new p hl _) (rv_val (.tup upd_same (r.mono (Same.new (p.bnone hl))))) q⟩⟩
    | ro h r => exact ⟨_, _, rfl, .inl ⟨Same.l p.bh h, fun l hl => K _ _ _ _ (Step.new p hl _) (rv_val (.tup upd_same (r.mono (Same.new (p.bnone hl))))) q⟩⟩
    | _ => exact q.elim

/-! ### isinstance -/
def D.ty {K : PySem.W.Frag} (c : Cn K) : D → Option Value
  | .non => some (.type "NoneType")
  | .bl _ => some (.type "bool")
  | .int _ => some (.type "int")
  | .str _ => some (.type "str")
  | .tup _ => some (.type "tuple")
  | .lst _ => some (.type "list")
  | .ro _ => some (.type "list")
  | .obj C _ => some (.ref (c.ca C))
  | .dct => some (.type "dict")
  | .flt _ => some (.type "float")
  | _ => none
theorem Is.tyx {K : PySem.W.Frag} {c : Cn K} {B H : Hp} {v : V} {d : D} {t : Value} (h : Is c B v d) (s : Same B H) (e : d.ty c = some t) : TyX K H v t := by
  cases h with
  | non => cases e; exact .base .non
  | bl b => cases e; exact .base (.bl b)
  | int i => cases e; exact .base (.int i)
  | str x => cases e; exact .base (.str x)
  | tup h r =>
    cases e
    exact .base (.tup (s _ _ h))
  | lst h r => cases e; exact .base (.lst (s _ _ h))
  | ro h r =>
    cases e
    rcases h with (h | ⟨o, h⟩) | ⟨o, its, n, h1, h2, _⟩
    · exact .base (.lst (s _ _ h))
    · exact .base (.frz (s _ _ h))
    · exact .kList h1 h2
  | obj h o r => cases e; exact .base (.ins (s _ _ h) o.cl o.ha o.hn o.htk o.hm)
  | lam h => cases e
  | xcp0 h _ => cases e
  | xcp1 h _ _ _ => cases e
  | fn x => cases e
  | typ n => cases e
  | drw => cases e
  | opq n => cases e
  | dct h => cases e; exact .base (.dK (s _ _ h))
  | dctT h => cases e; exact .base (.dT (s _ _ h))
  | flt x => cases e; exact .base (.flt x)
/-- isinstance(x, T): a built-in type, an own class, a tuple of built-in types; kt: which answers are known -/
def dIsi (kt : D → D → Option Bool) : D → D → (Rv → Prop) → Prop := fun d e k => ∃ b, kt d e = some b ∧ k (.val (.bl b))
def KtOk {K : PySem.W.Frag} (c : Cn K) (kt : D → D → Option Bool) : Prop := ∀ d e b, kt d e = some b → ∃ t, d.ty c = some t ∧
  ((∃ T, e = .typ T ∧ PySem.W.kitOne K t (.type T) = some b) ∨ (∃ C, e = .fn C ∧ PySem.W.kitOne K t (.ref (c.ca C)) = some b) ∨ ∃ Ts : List String, e = .tup (Ts.map D.typ) ∧ PySem.W.kitAny K t (Ts.map Value.type) = some b)
theorem typs_vals {K : PySem.W.Frag} {c : Cn K} {B : Hp} : ∀ {vs : List V} {Ts : List String}, IsL c B vs (Ts.map D.typ) → vs = Ts.map V.ty
  | _, [], h => by cases h; rfl
  | _, T :: Ts, h => by
    cases h with
    | cons r t =>
      cases r
      rw [typs_vals t]; rfl
theorem cls_typs : ∀ Ts : List String, Paired ClsV (Ts.map V.ty) (Ts.map Value.type)
  | [] => .nil
  | T :: Ts => .cons (.ty T) (cls_typs Ts)
theorem cd_isi {kt : D → D → Option Bool} (hk : KtOk c kt) : CallD c (fun xs H Q => rIsi X.K xs H Q ∨ rIsiT X.K xs H Q) (on2 (dIsi kt)) := by
  refine calld2 (fun d e k k' hk ⟨b, h1, h2⟩ => ⟨b, h1, hk _ h2⟩) fun B H v w d e Q k p i j q K => ?_
  obtain ⟨b, h1, h2⟩ := q
  obtain ⟨t, h3, h4⟩ := hk d e b h1
  have ty := i.tyx p.bh h3
  have fin : Q (.bl b) H := K _ B H _ (Step.refl p) (rv_val (.bl b)) h2
  rcases h4 with ⟨T, rfl, h4⟩ | ⟨C, rfl, h4⟩ | ⟨Ts, rfl, h4⟩
  · cases j
    exact .inl ⟨_, _, t, _, b, rfl, .ty T, ty, h4, fin⟩
  · cases j
    exact .inl ⟨_, _, t, _, b, rfl, .own _, ty, h4, fin⟩
  · cases j with
    | tup h r =>
      have e := typs_vals r
      subst e
      exact .inr ⟨_, _, _, t, _, b, rfl, p.bh _ _ h, cls_typs Ts, ty, h4, fin⟩
/-- o.f -/
def dFld (f : DV) (C : Str) (x : Str) : DV := fun ρ k E => f ρ (fun d => ∃ fs z, d = .obj C fs ∧ fs.lookup x = some z ∧ k z) E
theorem mem_keys {α : Type} {x : Str} : ∀ {l : List (Str × α)} {z : α}, l.lookup x = some z → x ∈ l.map (·.1)
  | [], _, h => by cases h
  | (y, w) :: r, z, h => by
    rw [List.lookup_cons] at h
    by_cases q : (x == y) = true
    · have e : x = y := by simpa using q
      rw [e]; exact List.mem_cons_self
    · have q' : (x == y) = false := by simpa using q
      rw [q'] at h
      exact List.mem_cons_of_mem _ (mem_keys h)
theorem ev_fld {C x : Str} (ha : EV X c W e f) (hb : attributeBase e x X.env (eval e X.env) = eval e X.env := by rfl) : EV X c W (.Attribute e x pos) (dFld f C x) := by
  refine ⟨fun ρ k k' E E' hk hE q => ha.mn ρ _ _ E E' (fun d ⟨fs, z, h1, h2, h3⟩ => ⟨fs, z, h1, h2, hk _ h3⟩) hE q, wkE (pe_fld ha.pe hb) ?_⟩
  rintro σ H Q ⟨B, ρ, p, rp, q⟩
  refine ⟨B, ρ, p, rp, ha.mn _ _ _ _ _ (fun d hd v B1 H1 s1 i1 => ?_) (fun _ z => z) q⟩
  obtain ⟨fs, z, rfl, h2, h3⟩ := hd
  cases i1 with
  | obj h o r =>
    obtain ⟨y, h4, h5⟩ := r.lookup h2
    exact ⟨_, _, _, _, y, rfl, s1.bh _ _ h, o.cl, o.na x (mem_keys h2), h4, h3 y B1 H1 s1 h5⟩
end
end Dv

set_option Elab.async false
set_option linter.all false
set_option maxRecDepth 100000
set_option maxHeartbeats 2000000
namespace Dv
open PySem PySem.Spec PyProof.Rows L2

/-- what holds of a frame -/
structure Fm (X : Cx) (W : WX) (j : Nat) : Prop where
  nd : X.N.Nodup
  calm : X.calm = true
  room : Room j X.A
  gd : X.A.guards = some []
  tk : Takes X W
  po : PassesOwn (model X.prog X.w) X.A X.env X.xe

/-! ### functions -/
/-- a def's promise, of calls that are made while nothing is being shown -/
structure FnD (P : Program) (w : World) (K : PySem.W.Frag) (mg : Str → Option Value) (base : Heap) (k : Nat) (f : Addr) (fd : FuncData) (ps : List Str) (sp : Sp) : Prop where
  len : ∀ vs H Q E, sp vs H Q E → vs.length = ps.length
  run : ∀ (A : Around) (outer : List Env) (s : Shared) (H : Hp) (args : Args) (us : List Value) (vs : List V) (Q : VK) (E : L2.XK),
    A.guards = some [] → Room k A → Env0 P w K mg base A outer s H → BindsTo s fd args (ps.zip us) → Vals vs us → sp vs H Q E →
      codeAny (model P w) A (.call (.ref f) args) (CR (L2.CX P w) outer P w H s Q E) s
theorem FnD.mono {P : Program} {w : World} {K : PySem.W.Frag} {mg : Str → Option Value} {base : Heap} {j k : Nat} {f : Addr} {fd : FuncData} {ps : List Str} {sp : Sp} (F : FnD P w K mg base j f fd ps sp) (h : j ≤ k) : FnD P w K mg base k f fd ps sp :=
  ⟨F.len, fun A outer s H args us vs Q E hg hr => F.run A outer s H args us vs Q E hg (hr.mono h)⟩
abbrev DF := List D → (Rv → Prop) → (Exn → Prop) → Prop
def MnF (F : DF) : Prop := ∀ ds (k k' : Rv → Prop) (E E' : Exn → Prop), (∀ d, k d → k' d) → (∀ x, E x → E' x) → F ds k E → F ds k' E'
def spD {K : PySem.W.Frag} (c : Cn K) (n : Nat) (F : DF) : Sp := fun vs H Q E => ∃ B ds, Pre c B H ∧ IsL c B vs ds ∧ ds.length = n ∧
  F ds (fun r => ∀ v B' H', Step c B H B' H' → RvOk c H B' H' v r → Q v H') (fun x => ∀ cls d B' H', Step c B H B' H' → XOk c B' H' cls d x → E cls d H')
/-- a def of the text, as it stands behind the top, and what it does -/
structure Df (P : Program) (w : World) (K : PySem.W.Frag) (mg : Str → Option Value) (base : Heap) (c : Cn K) (j : Nat) (x : Str) (st : Stmt) (ps : List Str) (F : DF) : Prop where
  g : mg x = some (.ref (c.ca x))
  kp : PySem.W.keepIn K (.ref (c.ca x)) = true
  mn : MnF F
  ok : ∃ (kV doc pm : Value) (an : Option Addr) (cdv ct : Value), FnD P w K mg base j (c.ca x) (PySem.W.fnOf x x (defArgs st) (defBody st) (defScope st) .none kV doc pm an cdv ct) ps (spD c ps.length F)
/-- how a def's parameters are bound -/
def BindP (x : Str) (st : Stmt) (ps ks : List Str) (n : Nat) (g : List Value → List Value) : Prop :=
  ∀ (kV doc pm : Value) (an : Option Addr) (cdv ct : Value) (us ws : List Value), us.length = n → ws.length = ks.length →
    bindArgs (PySem.W.fnOf x x (defArgs st) (defBody st) (defScope st) .none kV doc pm an cdv ct) ⟨us, ks.zip ws⟩ = pure (ps.zip (g (us ++ ws)))
/-- the items at the places -/
def pick {α : Type} (perm : List Nat) (l : List α) : List α := perm.filterMap fun i => l[i]?
theorem pick_vals {vs : List V} {us : List Value} (r : Vals vs us) : ∀ perm : List Nat, Vals (pick perm vs) (pick perm us)
  | [] => .nil
  | i :: p => by
    have t := pick_vals r p
    unfold pick at t ⊢
    rw [List.filterMap_cons, List.filterMap_cons]
    cases e : vs[i]? with
    | none => rw [r.none_of e]; exact t
    | some v =>
      obtain ⟨u, e2, rv⟩ := r.get e
      rw [e2]; exact .cons rv t
theorem pick_is {K : PySem.W.Frag} {c : Cn K} {B : Hp} {vs : List V} {ds : List D} (r : IsL c B vs ds) : ∀ perm : List Nat, IsL c B (pick perm vs) (pick perm ds)
  | [] => .nil
  | i :: p => by
    have t := pick_is r p
    unfold pick at t ⊢
    rw [List.filterMap_cons, List.filterMap_cons]
    cases e : vs[i]? with
    | none =>
      cases e2 : ds[i]? with
      | none => exact t
      | some d =>
        obtain ⟨v, e3, _⟩ := r.get e2
        rw [e] at e3; cases e3
    | some v =>
      obtain ⟨d, e2, rv⟩ := r.get' e
      rw [e2]; exact .cons rv t
section
variable {X : Cx} {c : Cn X.K} {W : WX} {e a b : Expr} {es : List Expr} {pos : Pos} {f g : DV} {j k : Nat}
/-- the callee runs -/
theorem run_fnD {pins : List (Addr × Obj)} {σ : L2.St} {H : Hp} {s : Shared} {Q : VK} {E : L2.XK} {args : Args} {us : List Value} {vs : List V} {fa : Addr} {fd : FuncData} {ps : List Str} {sp : Sp} (m : Fm X W j) (F : FnD X.prog X.w X.K X.mg X.base k fa fd ps sp) (hk : k ≤ j)
    (hE : ∀ cls d σ H, E cls d H → W cls d σ H) (I : Inv X pins σ H s) (hb : BindsTo s fd args (ps.zip us)) (r : Vals vs us) (h : sp vs H Q E) :
    codeAny (model X.prog X.w) X.A (.call (.ref fa) args) (fun r s' => match r with | .ok (.ret u) => EP X pins σ Q u s' | .ok _ => False | .error e => X.xe e s') s := by
  refine codeAny_mono (F.run X.A X.stack s H args us vs Q E m.gd (m.room.mono hk) I.env0 hb r h) fun r s' hq => ?_
  cases r with
  | error e => exact passes_call m.tk hE pins σ H s e s' I hq
  | ok fl =>
    cases fl with
    | ret u => exact I.after hq
    | next => exact hq
    | brk => exact hq
    | cont => exact hq
def dCall (g : DL) (F : DF) : DR := fun ρ k E => g ρ (fun ds => F ds k E) E
/-- f(e, ..) -/
theorem er_call {g : DL} {x : Str} {st : Stmt} {ps : List Str} {F : DF} {p : Pos} (m : Fm X W j) (d : Df X.prog X.w X.K X.mg X.base c k x st ps F) (hk : k ≤ j) (hg : Gl X x) (hb : BindP x st ps [] ps.length id) (ha : EA X c W (e :: es) g)
    (hl : (e :: es).length = ps.length := by rfl) (hdb : (x == ("__debug__" : Str)) = false := by decide) (he : starEach (e :: es) X.env = (false, eval e X.env) :: starEach es X.env := by rfl) (hpl : (backTo pos (starEach es X.env)).any (·.1) = false := by rfl) :
    ER X c W (.Call (.Name x p) (e :: es) [] pos) (dCall g F) := by
  refine ⟨fun ρ k k' E E' hk hE q => ha.mn ρ _ _ E E' (fun ds => d.mn ds k k' E E' hk hE) hE q, ⟨fun pins s σ H Q I h => ?_⟩⟩
  obtain ⟨B, ρ, pr, rp, q⟩ := h
  obtain ⟨kV, doc, pm, an, cdv, ct, F1⟩ := d.ok
  refine wpAny_Call_Name_kw (ld_glob I hg d.g ?_ hdb)
  have ht : tL c W g σ H fun vs H1 => spD c ps.length F vs H1 Q fun cls d H' => ∀ σ', W cls d σ' H' := by
    refine ⟨B, ρ, pr, rp, ha.mn _ _ _ _ _ (fun ds hd vs B1 H1 s1 i1 => ?_) (fun _ z => z) (ha.len _ _ _ q)⟩
    refine ⟨B1, ds, s1.pre, i1, hd.1.trans hl, d.mn _ _ _ _ _ (fun r hr v B' H' s2 ro => ?_) (fun x hx cls d B' H' s2 xo σ' => ?_) hd.2⟩
    · exact hr v B' H' (s1.trans s2) (ro.up s1)
    · exact hx cls d σ' B' H' (s1.trans s2) xo
  refine PySem.W.callWith_K (h₀ := X.base) I.ok.mod.kin d.kp (thn (ha.pa.run pos pins s σ H _ I ht) fun us s1 ⟨vs, H1, I1, r, q⟩ => ⟨I1.kIn, ?_⟩) he hpl
  have lv : us.length = ps.length := by rw [← r.length]; exact F1.len _ _ _ _ q
  have hbt : BindsTo s1 (PySem.W.fnOf x x (defArgs st) (defBody st) (defScope st) .none kV doc pm an cdv ct) ⟨us, []⟩ (ps.zip us) := .of_eq (by
    have z := hb kV doc pm an cdv ct us [] lv rfl
    simpa using z)
  refine wpAny_call (codeAny_mono (run_fnD m F1 hk (fun cls d σ H h => h σ) I1 hbt r q) fun r s' hq => ?_)
  cases r with
  | error e => exact hq
  | ok fl =>
    cases fl with
    | ret u => exact hq
    | next => exact hq.elim
    | brk => exact hq.elim
    | cont => exact hq.elim
/-! keywords -/
structure EK (X : Cx) (c : Cn X.K) (W : WX) (kws : List Keyword) (f : DL) : Prop where
  mn : Mn f
  len : ∀ ρ k E, f ρ k E → f ρ (fun ds => ds.length = kws.length ∧ k ds) E
  pk : PK X kws (tL c W f)
theorem wkK {X : Cx} {e : List Keyword} {t t' : TA} (p : PK X e t) (w : ∀ σ H Q, t' σ H Q → t σ H Q) : PK X e t' := ⟨fun pos pins s σ H Q I h => p.run pos pins s σ H Q I (w _ _ _ h)⟩
theorem ek_nil : EK X c W [] aNil := ⟨fun ρ k k' E E' hk hE q => hk _ q, fun ρ k E q => ⟨rfl, q⟩, wkK pk_nil fun σ H Q ⟨B, ρ, p, rp, q⟩ => q [] B H (Step.refl p) .nil⟩
theorem ek_cons {g : DL} {kws : List Keyword} {nm : Option Str} {kpos : Pos} (he : EV X c W e f) (hr : EK X c W kws g) : EK X c W (⟨nm, e, kpos⟩ :: kws) (aCons f g) := by
  refine ⟨fun ρ k k' E E' hk hE q => he.mn ρ _ _ E E' (fun d q => hr.mn ρ _ _ E E' (fun ds q => hk _ q) hE q) hE q, fun ρ k E q => ?_, wkK (pk_cons he.pe hr.pk) ?_⟩
  · refine he.mn ρ _ _ E E (fun d q => ?_) (fun _ z => z) q
    refine hr.mn ρ _ _ E E (fun ds q => ⟨?_, q.2⟩) (fun _ z => z) (hr.len ρ _ E q)
    rw [List.length_cons, List.length_cons, q.1]
  · rintro σ H Q ⟨B, ρ, p, rp, q⟩
    refine ⟨B, ρ, p, rp, he.mn _ _ _ _ _ (fun d hd x B1 H1 s1 i1 => ?_) (fun _ z => z) q⟩
    refine ⟨B1, ρ, s1.pre, rp.mono s1.b, hr.mn _ _ _ _ _ (fun ds hds vs B2 H2 s2 i2 => ?_) (fun x z => z.step s1) hd⟩
    exact hds _ B2 H2 (s1.trans s2) (.cons (i1.mono s2.b) i2)
def dCallK (g h : DL) (perm : List Nat) (F : DF) : DR := fun ρ k E => g ρ (fun ds => h ρ (fun es => F (pick perm (ds ++ es)) k E) E) E
theorem callk_mn {g h : DL} {perm : List Nat} {F : DF} (hg : Mn g) (hh : Mn h) (hF : MnF F) : Mn (dCallK g h perm F) :=
  fun ρ k k' E E' hk hE q => hg ρ _ _ E E' (fun ds q => hh ρ _ _ E E' (fun es => hF _ k k' E E' hk hE) hE q) hE q
/-- what the arguments of a call with keywords give -/
theorem callk_args {g h : DL} {ks ps : List Str} {kws : List Keyword} {perm : List Nat} {F : DF} {Q : VK} (hF : MnF F) (ha : EA X c W es g) (hw : EK X c W kws h) (hp : ∀ ds es' : List D, ds.length = es.length → es'.length = kws.length → (pick perm (ds ++ es')).length = ps.length) {σ : L2.St} {H : Hp}
    (q : tR c W (dCallK g h perm F) σ H Q) :
    tL c W g σ H fun vs H1 => vs.length = es.length ∧ tL c W h σ H1 fun zs H2 => zs.length = kws.length ∧ spD c ps.length F (pick perm (vs ++ zs)) H2 Q fun cls d H' => ∀ σ', W cls d σ' H' := by
  obtain ⟨B, ρ, pr, rp, q⟩ := q
  refine ⟨B, ρ, pr, rp, ha.mn _ _ _ _ _ (fun ds hd vs B1 H1 s1 i1 => ⟨i1.length.trans hd.1, ?_⟩) (fun _ z => z) (ha.len _ _ _ q)⟩
  refine ⟨B1, ρ, s1.pre, rp.mono s1.b, hw.mn _ _ _ _ _ (fun es' he zs B2 H2 s2 i2 => ⟨i2.length.trans he.1, ?_⟩) (fun x z => z.step s1) (hw.len _ _ _ hd.2)⟩
  refine ⟨B2, _, s2.pre, pick_is ((i1.mono s2.b).append i2) perm, hp ds es' hd.1 he.1, hF _ _ _ _ _ (fun r hr v B' H' s3 ro => ?_) (fun x hx cls d B' H' s3 xo σ' => ?_) he.2⟩
  · exact hr v B' H' (s1.trans (s2.trans s3)) (ro.up (s1.trans s2))
  · exact hx cls d σ' B' H' (s1.trans (s2.trans s3)) xo
theorem er_callK {g h : DL} {x : Str} {st : Stmt} {ps ks : List Str} {kws : List Keyword} {perm : List Nat} {F : DF} {p : Pos} (m : Fm X W j) (d : Df X.prog X.w X.K X.mg X.base c k x st ps F) (hk : k ≤ j) (hg : Gl X x) (hb : BindP x st ps ks (e :: es).length (pick perm))
    (ha : EA X c W (e :: es) g) (hw : EK X c W kws h) (hp : ∀ ds es' : List D, ds.length = (e :: es).length → es'.length = kws.length → (pick perm (ds ++ es')).length = ps.length) (hlk : kws.length = ks.length := by rfl)
    (hall : (backToKw pos (keywordEach kws X.env)).all (·.1.isSome) = true := by rfl) (hks : (backToKw pos (keywordEach kws X.env)).filterMap (·.1) = ks := by rfl)
    (hdb : (x == ("__debug__" : Str)) = false := by decide) (he : starEach (e :: es) X.env = (false, eval e X.env) :: starEach es X.env := by rfl)
    (hpl : ((backTo pos (starEach (e :: es) X.env)).any (·.1) || (backToKw pos (keywordEach kws X.env)).any (·.1.isNone)) = false := by rfl) :
    ER X c W (.Call (.Name x p) (e :: es) kws pos) (dCallK g h perm F) := by
  refine ⟨callk_mn ha.mn hw.mn d.mn, ⟨fun pins s σ H Q I q => ?_⟩⟩
  obtain ⟨kV, doc, pm, an, cdv, ct, F1⟩ := d.ok
  refine wpAny_Call_Name_kw (ld_glob I hg d.g ?_ hdb)
  have ht := callk_args (ks := ks) (ps := ps) d.mn ha hw hp q
  refine PySem.W.callWith_KW (h₀ := X.base) I.ok.mod.kin d.kp hall (thn (ha.pa.run pos pins s σ H _ I ht) fun us s1 ⟨vs, H1, I1, r, l1, q1⟩ => ?_) hpl he
  refine thn (hw.pk.run pos pins s1 σ H1 _ I1 q1) fun ws s2 ⟨zs, H2, I2, rz, l2, q2⟩ => ⟨I2.kIn, ?_⟩
  rw [hks]
  have hbt := hb kV doc pm an cdv ct us ws (r.length.symm.trans l1) ((rz.length.symm.trans l2).trans hlk)
  refine wpAny_call (codeAny_mono (run_fnD m F1 hk (fun cls d σ H h => h σ) I2 (.of_eq hbt) (pick_vals (r.append rz) perm) q2) fun r s' hq => ?_)
  cases r with
  | error e => exact hq
  | ok fl =>
    cases fl with
    | ret u => exact hq
    | next => exact hq.elim
    | brk => exact hq.elim
    | cont => exact hq.elim
theorem er_callK0 {h : DL} {x : Str} {st : Stmt} {ps ks : List Str} {kws : List Keyword} {perm : List Nat} {F : DF} {p : Pos} (m : Fm X W j) (d : Df X.prog X.w X.K X.mg X.base c k x st ps F) (hk : k ≤ j) (hg : Gl X x) (hb : BindP x st ps ks 0 (pick perm))
    (hw : EK X c W kws h) (hp : ∀ ds es' : List D, ds.length = ([] : List Expr).length → es'.length = kws.length → (pick perm (ds ++ es')).length = ps.length) (hlk : kws.length = ks.length := by rfl)
    (hall : (backToKw pos (keywordEach kws X.env)).all (·.1.isSome) = true := by rfl) (hks : (backToKw pos (keywordEach kws X.env)).filterMap (·.1) = ks := by rfl)
    (hdb : (x == ("__debug__" : Str)) = false := by decide)
    (hpl : ((backTo pos (starEach [] X.env)).any (·.1) || (backToKw pos (keywordEach kws X.env)).any (·.1.isNone)) = false := by rfl) :
    ER X c W (.Call (.Name x p) [] kws pos) (dCallK aNil h perm F) := by
  refine ⟨callk_mn (ea_nil (X := X) (c := c) (W := W)).mn hw.mn d.mn, ⟨fun pins s σ H Q I q => ?_⟩⟩
  obtain ⟨kV, doc, pm, an, cdv, ct, F1⟩ := d.ok
  refine wpAny_Call_Name_kw (ld_glob I hg d.g ?_ hdb)
  have ht := callk_args (ks := ks) (ps := ps) d.mn ea_nil hw hp q
  have hk2 : tL c W h σ H fun zs H2 => zs.length = kws.length ∧ spD c ps.length F (pick perm ([] ++ zs)) H2 Q fun cls d H' => ∀ σ', W cls d σ' H' := by
    obtain ⟨B, ρ, pr, rp, q⟩ := ht
    exact (q [] B H (Step.refl pr) .nil).2
  refine PySem.W.callWith_KW0 (h₀ := X.base) I.ok.mod.kin d.kp hall ?_ hpl
  refine thn (hw.pk.run pos pins s σ H _ I hk2) fun ws s2 ⟨zs, H2, I2, rz, l2, q2⟩ => ⟨I2.kIn, ?_⟩
  rw [hks]
  have hbt := hb kV doc pm an cdv ct [] ws rfl ((rz.length.symm.trans l2).trans hlk)
  refine wpAny_call (codeAny_mono (run_fnD m F1 hk (fun cls d σ H h => h σ) I2 (.of_eq hbt) (pick_vals (Vals.append .nil rz) perm) q2) fun r s' hq => ?_)
  cases r with
  | error e => exact hq
  | ok fl =>
    cases fl with
    | ret u => exact hq
    | next => exact hq.elim
    | brk => exact hq.elim
    | cont => exact hq.elim
end
end Dv

set_option Elab.async false
set_option linter.all false
set_option maxRecDepth 100000
set_option maxHeartbeats 2000000
namespace Dv
open PySem PySem.Spec PyProof.Rows L2

/-- what a local name holds: a value, or a list that it alone holds -/
inductive Slot where
  | val (d : D)
  | own (ds : List D)
abbrev Sl := List (Option Slot)
def viewN (ρ : Sl) : View := ρ.map fun o => match o with
  | some (.val d) => some d
  | _ => none
def viewB (ρ : Sl) : View := ρ.map fun o => match o with
  | some (.val d) => some d
  | some (.own ds) => some (.lst ds)
  | none => none
def SlotOk {K : PySem.W.Frag} (c : Cn K) (H0 B H : Hp) (σ : L2.St) (i : Nat) : Slot → Prop
  | .val d => ∃ v, σ[i]? = some (some v) ∧ Is c B v d
  | .own ds => ∃ a vs, σ[i]? = some (some (.ref a)) ∧ H a = some (.lst vs) ∧ IsL c B vs ds ∧ B a = none ∧ H0 a = none
/-- the address of an owned list -/
def OwnAt (ρ : Sl) (σ : L2.St) (a : Addr) : Prop := ∃ (i : Nat) (ds : List D), ρ[i]? = some (some (.own ds)) ∧ σ[i]? = some (some (.ref a))
structure Rep {K : PySem.W.Frag} (c : Cn K) (H0 B0 B H : Hp) (σ : L2.St) (ρ : Sl) : Prop where
  p0 : Pre c B0 H0
  st : Step c B0 H0 B H
  len : ρ.length = σ.length
  sl : ∀ (i : Nat) (s : Slot), ρ[i]? = some (some s) → SlotOk c H0 B H σ i s
  inj : ∀ (i j : Nat) (a : Addr) (ds es : List D), ρ[i]? = some (some (.own ds)) → ρ[j]? = some (some (.own es)) → σ[i]? = some (some (.ref a)) → σ[j]? = some (some (.ref a)) → i = j
section
variable {K : PySem.W.Frag} {c : Cn K} {H0 B0 B H B1 H1 Bp : Hp} {σ : L2.St} {ρ : Sl}
theorem viewN_get {i : Nat} {d : D} (h : (viewN ρ)[i]? = some (some d)) : ρ[i]? = some (some (.val d)) := by
  unfold viewN at h
  rw [List.getElem?_map] at h
  cases q : ρ[i]? with
  | none => rw [q] at h; cases h
  | some o =>
    rw [q] at h
    cases o with
    | none => cases h
    | some s =>
      cases s with
      | val d' => cases h; rfl
      | own ds => cases h
theorem viewB_get {i : Nat} {d : D} (h : (viewB ρ)[i]? = some (some d)) : ρ[i]? = some (some (.val d)) ∨ ∃ ds, ρ[i]? = some (some (.own ds)) ∧ d = .lst ds := by
  unfold viewB at h
  rw [List.getElem?_map] at h
  cases q : ρ[i]? with
  | none => rw [q] at h; cases h
  | some o =>
    rw [q] at h
    cases o with
    | none => cases h
    | some s =>
      cases s with
      | val d' => cases h; exact .inl rfl
      | own ds => cases h; exact .inr ⟨ds, rfl, rfl⟩
theorem Rep.pre (r : Rep c H0 B0 B H σ ρ) : Pre c B H := r.st.pre
theorem Rep.viewN (r : Rep c H0 B0 B H σ ρ) : RepV c B σ (viewN ρ) := ⟨by unfold Dv.viewN; rw [List.length_map]; exact r.len, fun i d h => r.sl i _ (viewN_get h)⟩
theorem Rep.ownH (r : Rep c H0 B0 B H σ ρ) {a : Addr} (h : OwnAt ρ σ a) : (∃ vs, H a = some (.lst vs)) ∧ B a = none ∧ H0 a = none := by
  obtain ⟨i, ds, h1, h2⟩ := h
  obtain ⟨a', vs, h3, h4, _, h5, h6⟩ := r.sl i _ h1
  rw [h2] at h3; cases h3
  exact ⟨⟨vs, h4⟩, h5, h6⟩
/-- what is owned is lent -/
structure Lent (c : Cn K) (B H Bp : Hp) (σ : L2.St) (ρ : Sl) : Prop where
  on : ∀ a, OwnAt ρ σ a → Bp a = H a
  off : ∀ a, ¬ OwnAt ρ σ a → Bp a = B a
theorem Rep.lend (r : Rep c H0 B0 B H σ ρ) : ∃ Bp, Pre c Bp H ∧ Same B Bp ∧ Lent c B H Bp σ ρ ∧ RepV c Bp σ (viewB ρ) := by
  classical
  have sm : Same B fun a => if OwnAt ρ σ a then H a else B a := fun a o h => by
    show (if OwnAt ρ σ a then H a else B a) = some o
    by_cases q : OwnAt ρ σ a
    · rw [if_pos q]; exact r.pre.bh a o h
    · rw [if_neg q]; exact h
  refine ⟨fun a => if OwnAt ρ σ a then H a else B a, ⟨fun a o h => ?_, r.pre.inv, fun a m => ?_⟩, sm, ⟨fun a h => if_pos h, fun a h => if_neg h⟩, by unfold viewB; rw [List.length_map]; exact r.len, fun i d h => ?_⟩
  · have h' : (if OwnAt ρ σ a then H a else B a) = some o := h
    by_cases q : OwnAt ρ σ a
    · rw [if_pos q] at h'; exact h'
    · rw [if_neg q] at h'; exact r.pre.bh a o h'
  · show (if OwnAt ρ σ a then H a else B a) = none
    by_cases q : OwnAt ρ σ a
    · exact absurd m (r.p0.nmu (r.ownH q).2.2)
    · rw [if_neg q]; exact r.pre.av a m
  · rcases viewB_get h with hv | ⟨ds, hv, rfl⟩
    · obtain ⟨v, h1, h2⟩ := r.sl i _ hv
      exact ⟨v, h1, h2.mono sm⟩
    · obtain ⟨a, vs, h1, h2, h3, h4, h5⟩ := r.sl i _ hv
      refine ⟨_, h1, .lst ?_ (h3.mono sm)⟩
      show (if OwnAt ρ σ a then H a else B a) = some (.lst vs)
      rw [if_pos ⟨i, ds, hv, h1⟩]; exact h2
/-- behind an expression that lends nothing -/
theorem Rep.goN (r : Rep c H0 B0 B H σ ρ) (s : Step c B H B1 H1) : Rep c H0 B0 B1 H1 σ ρ := by
  refine ⟨r.p0, r.st.trans s, r.len, fun i sl h => ?_, r.inj⟩
  have q := r.sl i sl h
  cases sl with
  | val d => exact let ⟨v, h1, h2⟩ := q; ⟨v, h1, h2.mono s.b⟩
  | own ds =>
    obtain ⟨a, vs, h1, h2, h3, h4, h5⟩ := q
    refine ⟨a, vs, h1, s.out a _ h2 (r.p0.nmu h5) (fun _ z => nomatch z), h3.mono s.b, ?_, h5⟩
    rw [s.dom a (by rw [h2]; exact fun z => nomatch z)]; exact h4
/-- .. that lends: what is owned is taken back -/
theorem Rep.goB (r : Rep c H0 B0 B H σ ρ) (sm : Same B Bp) (l : Lent c B H Bp σ ρ) (s : Step c Bp H B1 H1) :
    ∃ B', Rep c H0 B0 B' H1 σ ρ ∧ Same B B' ∧ (∀ a, ¬ OwnAt ρ σ a → B' a = B1 a) ∧ ∀ a o, B1 a = some o → (∀ xs, o ≠ .lst xs) → B' a = some o := by
  classical
  have nown : ∀ a, OwnAt ρ σ a → (if OwnAt ρ σ a then none else B1 a) = none := fun a h => if_pos h
  have off : ∀ a, ¬ OwnAt ρ σ a → (if OwnAt ρ σ a then none else B1 a) = B1 a := fun a h => if_neg h
  have own1 : ∀ a, OwnAt ρ σ a → ∃ vs, B1 a = some (.lst vs) := fun a h => by
    obtain ⟨⟨vs, e⟩, _⟩ := r.ownH h
    exact ⟨vs, s.b a _ ((l.on a h).trans e)⟩
  have hb : Same B fun a => if OwnAt ρ σ a then none else B1 a := fun a o h => by
    have n : ¬ OwnAt ρ σ a := fun q => by rw [(r.ownH q).2.1] at h; cases h
    exact (off a n).trans (s.b a o (sm a o h))
  have hth : ∀ a, H0 a ≠ none → H a ≠ none := r.st.th
  refine ⟨fun a => if OwnAt ρ σ a then none else B1 a, ⟨r.p0, ⟨fun a o h => hb a o (r.st.b a o h), fun a o h => ?_, fun a h => ?_, fun a o h n z => s.out a o (r.st.out a o h n z) n z, fun a h => s.th a (hth a h), s.inv, fun a m => ?_⟩, r.len, fun i sl h => ?_, r.inj⟩, hb, off, fun a o h z => ?_⟩
  · have h' : (if OwnAt ρ σ a then none else B1 a) = some o := h
    by_cases q : OwnAt ρ σ a
    · rw [if_pos q] at h'; cases h'
    · rw [if_neg q] at h'; exact s.bh a o h'
  · have n : ¬ OwnAt ρ σ a := fun q => h (r.ownH q).2.2
    show (if OwnAt ρ σ a then none else B1 a) = B0 a
    rw [if_neg n, s.dom a (hth a h), l.off a n]
    exact r.st.dom a h
  · show (if OwnAt ρ σ a then none else B1 a) = none
    by_cases q : OwnAt ρ σ a
    · exact if_pos q
    · rw [if_neg q]; exact s.av a m
  · have q := r.sl i sl h
    cases sl with
    | val d => exact let ⟨v, h1, h2⟩ := q; ⟨v, h1, h2.mono hb⟩
    | own ds =>
      obtain ⟨a, vs, h1, h2, h3, h4, h5⟩ := q
      exact ⟨a, vs, h1, s.out a _ h2 (r.p0.nmu h5) (fun _ z => nomatch z), h3.mono hb, nown a ⟨i, ds, h, h1⟩, h5⟩
  · by_cases q : OwnAt ρ σ a
    · obtain ⟨vs, e⟩ := own1 a q
      rw [h] at e; cases e
      exact absurd rfl (z vs)
    · exact (off a q).trans h
/-- the owned lists at the places S are given away -/
def freeze (S : List Nat) (ρ : Sl) : Sl := ρ.mapIdx fun i o => match o with
  | some (.own ds) => if i ∈ S then some (.val (.lst ds)) else some (.own ds)
  | o => o
theorem freeze_get {S : List Nat} {i : Nat} {s : Slot} (h : (freeze S ρ)[i]? = some (some s)) : (ρ[i]? = some (some s) ∧ ∀ ds, s = .own ds → i ∉ S) ∨ (i ∈ S ∧ ∃ ds, ρ[i]? = some (some (.own ds)) ∧ s = .val (.lst ds)) := by
  unfold freeze at h
  rw [List.getElem?_mapIdx] at h
  cases q : ρ[i]? with
  | none => rw [q] at h; cases h
  | some o =>
    rw [q] at h
    cases o with
    | none => cases h
    | some t =>
      cases t with
      | val d => cases h; exact .inl ⟨rfl, fun _ z => nomatch z⟩
      | own ds =>
        by_cases m : i ∈ S
        · simp only [Option.map_some, if_pos m, Option.some.injEq] at h
          exact .inr ⟨m, ds, rfl, h.symm⟩
        · simp only [Option.map_some, if_neg m, Option.some.injEq] at h
          exact .inl ⟨by rw [← h], fun _ _ => m⟩
theorem Rep.give (r : Rep c H0 B0 B H σ ρ) (S : List Nat) : ∃ B', Rep c H0 B0 B' H σ (freeze S ρ) ∧ Same B B' := by
  classical
  let G : Addr → Prop := fun a => ∃ (i : Nat) (ds : List D), i ∈ S ∧ ρ[i]? = some (some (.own ds)) ∧ σ[i]? = some (some (.ref a))
  have gO : ∀ a, G a → OwnAt ρ σ a := fun a ⟨i, ds, _, h1, h2⟩ => ⟨i, ds, h1, h2⟩
  have on : ∀ a, G a → (if G a then H a else B a) = H a := fun a h => if_pos h
  have off : ∀ a, ¬ G a → (if G a then H a else B a) = B a := fun a h => if_neg h
  have sm : Same B fun a => if G a then H a else B a := fun a o h => by
    by_cases q : G a
    · exact (on a q).trans (r.pre.bh a o h)
    · exact (off a q).trans h
  refine ⟨fun a => if G a then H a else B a, ⟨r.p0, ⟨fun a o h => sm a o (r.st.b a o h), fun a o h => ?_, fun a h => ?_, r.st.out, r.st.th, r.st.inv, fun a m => ?_⟩, by unfold freeze; rw [List.length_mapIdx]; exact r.len, fun i s h => ?_, fun i j a ds es h1 h2 h3 h4 => ?_⟩, sm⟩
  · have h' : (if G a then H a else B a) = some o := h
    by_cases q : G a
    · rw [on a q] at h'; exact h'
    · rw [off a q] at h'; exact r.pre.bh a o h'
  · have n : ¬ G a := fun q => h (r.ownH (gO a q)).2.2
    exact (off a n).trans (r.st.dom a h)
  · by_cases q : G a
    · exact absurd m (r.p0.nmu (r.ownH (gO a q)).2.2)
    · exact (off a q).trans (r.pre.av a m)
  · rcases freeze_get h with ⟨h1, h2⟩ | ⟨h1, ds, h2, h3⟩
    · have q := r.sl i s h1
      cases s with
      | val d => exact let ⟨v, e1, e2⟩ := q; ⟨v, e1, e2.mono sm⟩
      | own ds =>
        obtain ⟨a, vs, e1, e2, e3, e4, e5⟩ := q
        have n : ¬ G a := fun ⟨j, es, m, k1, k2⟩ => h2 ds rfl (by rw [r.inj i j a ds es h1 k1 e1 k2]; exact m)
        exact ⟨a, vs, e1, e2, e3.mono sm, (off a n).trans e4, e5⟩
    · subst h3
      obtain ⟨a, vs, e1, e2, e3, e4, e5⟩ := r.sl i _ h2
      exact ⟨_, e1, .lst ((on a ⟨i, ds, h1, h2, e1⟩).trans e2) (e3.mono sm)⟩
  · rcases freeze_get h1 with ⟨k1, _⟩ | ⟨_, _, _, e⟩
    · rcases freeze_get h2 with ⟨k2, _⟩ | ⟨_, _, _, e⟩
      · exact r.inj i j a ds es k1 k2 h3 h4
      · cases e
    · cases e
/-- what leaves the frame by an exception, while something is lent -/
theorem Rep.outB (r : Rep c H0 B0 B H σ ρ) (sm : Same B Bp) (l : Lent c B H Bp σ ρ) (s : Step c Bp H B1 H1) : Step c B0 H0 B1 H1 := by
  refine ⟨fun a o h => s.b a o (sm a o (r.st.b a o h)), s.bh, fun a h => ?_, fun a o h n z => s.out a o (r.st.out a o h n z) n z, fun a h => s.th a (r.st.th a h), s.inv, s.av⟩
  have n : ¬ OwnAt ρ σ a := fun q => h (r.ownH q).2.2
  rw [s.dom a (r.st.th a h), l.off a n]
  exact r.st.dom a h
theorem set_get {α : Type} {l : List α} {i j : Nat} {x y : α} (h : (l.set i x)[j]? = some y) : (j = i ∧ i < l.length ∧ x = y) ∨ (j ≠ i ∧ l[j]? = some y) := by
  by_cases q : j = i
  · subst q
    have hl : j < l.length := by
      have := (List.getElem?_eq_some_iff.mp h).1
      simpa using this
    rw [List.getElem?_set_self hl] at h
    exact .inl ⟨rfl, hl, Option.some.inj h⟩
  · rw [List.getElem?_set_ne (fun z => q z.symm)] at h
    exact .inr ⟨q, h⟩
/-- a name is stored -/
theorem Rep.setV (r : Rep c H0 B0 B H σ ρ) {i : Nat} {v : V} {d : D} (h : Is c B v d) : Rep c H0 B0 B H (σ.set i (some v)) (ρ.set i (some (.val d))) := by
  refine ⟨r.p0, r.st, by rw [List.length_set, List.length_set]; exact r.len, fun j s hj => ?_, fun j k a ds es h1 h2 h3 h4 => ?_⟩
  · rcases set_get hj with ⟨rfl, hl, e⟩ | ⟨n, hj⟩
    · cases e
      exact ⟨v, List.getElem?_set_self (by rw [← r.len]; exact hl), h⟩
    · have q := r.sl j s hj
      cases s with
      | val d' => exact let ⟨u, h1, h2⟩ := q; ⟨u, by rw [List.getElem?_set_ne (fun z => n z.symm)]; exact h1, h2⟩
      | own ds => exact let ⟨a, vs, h1, h2⟩ := q; ⟨a, vs, by rw [List.getElem?_set_ne (fun z => n z.symm)]; exact h1, h2⟩
  · rcases set_get h1 with ⟨_, _, e⟩ | ⟨n1, h1⟩
    · cases e
    · rcases set_get h2 with ⟨_, _, e⟩ | ⟨n2, h2⟩
      · cases e
      · rw [List.getElem?_set_ne (fun z => n1 z.symm)] at h3
        rw [List.getElem?_set_ne (fun z => n2 z.symm)] at h4
        exact r.inj j k a ds es h1 h2 h3 h4
theorem Rep.setO (r : Rep c H0 B0 B H σ ρ) {i : Nat} {a : Addr} {vs : List V} {ds : List D} (h1 : H a = some (.lst vs)) (h2 : IsL c B vs ds) (h3 : B a = none) (h4 : H0 a = none) (h5 : ∀ j ds', j ≠ i → ρ[j]? = some (some (.own ds')) → σ[j]? ≠ some (some (.ref a))) :
    Rep c H0 B0 B H (σ.set i (some (.ref a))) (ρ.set i (some (.own ds))) := by
  refine ⟨r.p0, r.st, by rw [List.length_set, List.length_set]; exact r.len, fun j s hj => ?_, fun j k a' ds' es' q1 q2 q3 q4 => ?_⟩
  · rcases set_get hj with ⟨rfl, hl, e⟩ | ⟨n, hj⟩
    · cases e
      exact ⟨a, vs, List.getElem?_set_self (by rw [← r.len]; exact hl), h1, h2, h3, h4⟩
    · have q := r.sl j s hj
      cases s with
      | val d' => exact let ⟨u, h1, h2⟩ := q; ⟨u, by rw [List.getElem?_set_ne (fun z => n z.symm)]; exact h1, h2⟩
      | own ds => exact let ⟨a, vs, h1, h2⟩ := q; ⟨a, vs, by rw [List.getElem?_set_ne (fun z => n z.symm)]; exact h1, h2⟩
  · rcases set_get q1 with ⟨e1, l1, _⟩ | ⟨n1, q6⟩
    · rcases set_get q2 with ⟨e2, _, _⟩ | ⟨n2, q5⟩
      · rw [e1, e2]
      · rw [List.getElem?_set_ne (fun z => n2 z.symm)] at q4
        rw [e1, List.getElem?_set_self (by rw [← r.len]; exact l1)] at q3
        cases q3
        exact absurd q4 (h5 k es' n2 q5)
    · rw [List.getElem?_set_ne (fun z => n1 z.symm)] at q3
      rcases set_get q2 with ⟨e2, l2, _⟩ | ⟨n2, q5⟩
      · rw [e2, List.getElem?_set_self (by rw [← r.len]; exact l2)] at q4
        cases q4
        exact absurd q3 (h5 j ds' n1 q6)
      · rw [List.getElem?_set_ne (fun z => n2 z.symm)] at q4
        exact r.inj j k a' ds' es' q6 q5 q3 q4
end

/-! ### statements -/
structure Ks where
  nx : Sl → Prop
  rt : Rv → Prop
  bk : Sl → Prop
  ct : Sl → Prop
abbrev DS := Sl → Ks → (Exn → Prop) → Prop
structure KLe (k k' : Ks) : Prop where
  nx : ∀ ρ, k.nx ρ → k'.nx ρ
  rt : ∀ r, k.rt r → k'.rt r
  bk : ∀ ρ, k.bk ρ → k'.bk ρ
  ct : ∀ ρ, k.ct ρ → k'.ct ρ
theorem KLe.refl (k : Ks) : KLe k k := ⟨fun _ h => h, fun _ h => h, fun _ h => h, fun _ h => h⟩
def MnS (f : DS) : Prop := ∀ ρ (k k' : Ks) (E E' : Exn → Prop), KLe k k' → (∀ x, E x → E' x) → f ρ k E → f ρ k' E'
def KS {K : PySem.W.Frag} (c : Cn K) (H0 B0 Bs : Hp) (D : Ends) : Ks :=
  ⟨fun ρ => ∀ σ B H, Rep c H0 B0 B H σ ρ → Same Bs B → D.nx σ H, fun r => ∀ v B H, Step c B0 H0 B H → RvOk c H0 B H v r → D.rt v H,
   fun ρ => ∀ σ B H, Rep c H0 B0 B H σ ρ → Same Bs B → D.bk σ H, fun ρ => ∀ σ B H, Rep c H0 B0 B H σ ρ → Same Bs B → D.ct σ H⟩
def tS {K : PySem.W.Frag} (c : Cn K) (W : WX) (f : DS) : TS := fun D σ H => ∃ H0 B0 B ρ, Rep c H0 B0 B H σ ρ ∧ f ρ (KS c H0 B0 B D) (XK c W B0 H0)
structure SS (X : Cx) (c : Cn X.K) (W : WX) (st : Stmt) (f : DS) : Prop where
  mn : MnS f
  ps : PS X st (tS c W f)
structure SB (X : Cx) (c : Cn X.K) (W : WX) (sts : List Stmt) (f : DS) : Prop where
  mn : MnS f
  ps : PSs X sts (tS c W f)

theorem KS.mono {K : PySem.W.Frag} {c : Cn K} {H0 B0 B B' : Hp} {D : Ends} (s : Same B B') : KLe (KS c H0 B0 B D) (KS c H0 B0 B' D) :=
  ⟨fun _ h σ B H r s' => h σ B H r fun a o e => s' a o (s a o e), fun _ h => h, fun _ h σ B H r s' => h σ B H r fun a o e => s' a o (s a o e), fun _ h σ B H r s' => h σ B H r fun a o e => s' a o (s a o e)⟩
section
variable {X : Cx} {c : Cn X.K} {W : WX} {e a b : Expr} {es : List Expr} {pos : Pos} {f g : DS} {j k : Nat}
def sNil : DS := fun ρ k _ => k.nx ρ
def sCons (f g : DS) : DS := fun ρ k E => f ρ { k with nx := fun ρ' => g ρ' k E } E
theorem Same.refl (H : Hp) : Same H H := fun _ _ h => h
theorem sb_nil : SB X c W [] sNil :=
  ⟨fun ρ k k' E E' hk _ h => hk.nx ρ h, wkSs pss_nil fun D σ H ⟨H0, B0, B, ρ, r, q⟩ => q σ B H r (Same.refl B)⟩
theorem sb_cons {st : Stmt} {sts : List Stmt} (h1 : SS X c W st f) (h2 : SB X c W sts g) : SB X c W (st :: sts) (sCons f g) := by
  refine ⟨fun ρ k k' E E' hk hE q => h1.mn ρ { k with nx := fun ρ' => g ρ' k E } { k' with nx := fun ρ' => g ρ' k' E' } E E' ⟨fun ρ' q => h2.mn ρ' k k' E E' hk hE q, hk.rt, hk.bk, hk.ct⟩ hE q, wkSs (pss_cons h1.ps h2.ps) ?_⟩
  rintro D σ H ⟨H0, B0, B, ρ, r, q⟩
  refine ⟨H0, B0, B, ρ, r, h1.mn ρ { KS c H0 B0 B D with nx := fun ρ' => g ρ' (KS c H0 B0 B D) (XK c W B0 H0) } _ _ _ ⟨fun ρ' q σ' B' H' r' s' => ⟨H0, B0, B', ρ', r', h2.mn _ _ _ _ _ (KS.mono s') (fun _ h => h) q⟩, fun _ h => h, fun _ h => h, fun _ h => h⟩ (fun _ h => h) q⟩
theorem ss_pass : SS X c W (.Pass pos) sNil := ⟨fun ρ k k' E E' hk _ h => hk.nx ρ h, wkS ps_pass fun D σ H ⟨H0, B0, B, ρ, r, q⟩ => q σ B H r (Same.refl B)⟩
def sBrk : DS := fun ρ k _ => k.bk ρ
def sCnt : DS := fun ρ k _ => k.ct ρ
theorem ss_brk : SS X c W (.Break pos) sBrk := ⟨fun ρ k k' E E' hk _ h => hk.bk ρ h, wkS ps_break fun D σ H ⟨H0, B0, B, ρ, r, q⟩ => q σ B H r (Same.refl B)⟩
theorem ss_cnt : SS X c W (.Continue pos) sCnt := ⟨fun ρ k k' E E' hk _ h => hk.ct ρ h, wkS ps_continue fun D σ H ⟨H0, B0, B, ρ, r, q⟩ => q σ B H r (Same.refl B)⟩
/-- a statement behind which the names at S hold no list alone -/
def sFz (S : List Nat) (f : DS) : DS := fun ρ k E => f (freeze S ρ) k E
theorem ss_fz (S : List Nat) {st : Stmt} (h : SS X c W st f) : SS X c W st (sFz S f) := by
  refine ⟨fun ρ k k' E E' hk hE q => h.mn _ k k' E E' hk hE q, wkS h.ps ?_⟩
  rintro D σ H ⟨H0, B0, B, ρ, r, q⟩
  obtain ⟨B', r', s'⟩ := r.give S
  exact ⟨H0, B0, B', _, r', h.mn _ _ _ _ _ (KS.mono s') (fun _ h => h) q⟩
/-- how an expression's result meets the frame -/
theorem XK.rep {K : PySem.W.Frag} {c : Cn K} {W : WX} {H0 B0 B H Bp : Hp} {σ : L2.St} {ρ : Sl} (r : Rep c H0 B0 B H σ ρ) (sm : Same B Bp) (l : Lent c B H Bp σ ρ) {x : Exn} (h : XK c W B0 H0 x) : XK c W Bp H x :=
  fun cls d σ' B' H' s xo => h cls d σ' B' H' (r.outB sm l s) xo
theorem XK.repN {K : PySem.W.Frag} {c : Cn K} {W : WX} {H0 B0 B H : Hp} {σ : L2.St} {ρ : Sl} (r : Rep c H0 B0 B H σ ρ) {x : Exn} (h : XK c W B0 H0 x) : XK c W B H x :=
  fun cls d σ' B' H' s xo => h cls d σ' B' H' (r.st.trans s) xo
/-- e as a statement -/
def sExpr (f : DV) : DS := fun ρ k E => f (viewB ρ) (fun _ => k.nx ρ) E
theorem ss_expr {f : DV} (h : EV X c W e f) (hs : swapsWith e none pos.line X.env = pure false := by rfl) : SS X c W (.Expr e pos) (sExpr f) := by
  refine ⟨fun ρ k k' E E' hk hE q => h.mn _ _ _ E E' (fun _ => hk.nx ρ) hE q, wkS (ps_expr h.pe hs) ?_⟩
  rintro D σ H ⟨H0, B0, B, ρ, r, q⟩
  obtain ⟨Bp, pp, sm, l, rv⟩ := r.lend
  refine ⟨Bp, _, pp, rv, h.mn _ _ _ _ _ (fun d hd v B1 H1 s i => ?_) (fun x hx => hx.rep r sm l) q⟩
  obtain ⟨B', r', s', _⟩ := r.goB sm l s
  exact hd σ B' H1 r' s'
/-- x = e: a value; N: nothing owned is read; B: the value has no list -/
def sSetN (i : Nat) (f : DV) : DS := fun ρ k E => f (viewN ρ) (fun d => k.nx (ρ.set i (some (.val d)))) E
def sSetB (i : Nat) (f : DV) : DS := fun ρ k E => f (viewB ρ) (fun d => d.lf = true ∧ k.nx (ρ.set i (some (.val d)))) E
theorem setN_ok {f : DV} {i : Nat} (h : EV X c W e f) : MnS (sSetN i f) ∧ ∀ D σ H, tS c W (sSetN i f) D σ H → tAsg (tV c W f) (gName i) D σ H := by
  refine ⟨fun ρ k k' E E' hk hE q => h.mn _ _ _ E E' (fun d => hk.nx _) hE q, ?_⟩
  rintro D σ H ⟨H0, B0, B, ρ, r, q⟩
  refine ⟨B, _, r.pre, r.viewN, h.mn _ _ _ _ _ (fun d hd v B1 H1 s i1 => ?_) (fun x hx => hx.repN r) q⟩
  exact hd _ B1 H1 ((r.goN s).setV i1) s.b
theorem setB_ok {f : DV} {i : Nat} (h : EV X c W e f) : MnS (sSetB i f) ∧ ∀ D σ H, tS c W (sSetB i f) D σ H → tAsg (tV c W f) (gName i) D σ H := by
  refine ⟨fun ρ k k' E E' hk hE q => h.mn _ _ _ E E' (fun d q => ⟨q.1, hk.nx _ q.2⟩) hE q, ?_⟩
  rintro D σ H ⟨H0, B0, B, ρ, r, q⟩
  obtain ⟨Bp, pp, sm, l, rv⟩ := r.lend
  refine ⟨Bp, _, pp, rv, h.mn _ _ _ _ _ (fun d hd v B1 H1 s i1 => ?_) (fun x hx => hx.rep r sm l) q⟩
  obtain ⟨B', r', s', _, kp⟩ := r.goB sm l s
  exact hd.2 _ B' H1 (r'.setV (i1.but kp hd.1)) s'
/-- x = a new list, x's own -/
def sOwnN (i : Nat) (f : DR) : DS := fun ρ k E => f (viewN ρ) (fun r => ∃ ds, r = .new ds ∧ k.nx (ρ.set i (some (.own ds)))) E
def sOwnB (i : Nat) (f : DR) : DS := fun ρ k E => f (viewB ρ) (fun r => ∃ ds, r = .new ds ∧ D.lf.lfL ds = true ∧ k.nx (ρ.set i (some (.own ds)))) E
theorem fresh0 {K : PySem.W.Frag} {c : Cn K} {B0 H0 B H : Hp} (s : Step c B0 H0 B H) {a : Addr} (h : H a = none) : H0 a = none := by
  cases z : H0 a with
  | none => rfl
  | some o => exact absurd h (s.th a (by rw [z]; exact fun z => nomatch z))
theorem ownN_ok {f : DR} {i : Nat} (h : ER X c W e f) : MnS (sOwnN i f) ∧ ∀ D σ H, tS c W (sOwnN i f) D σ H → tAsg (tR c W f) (gName i) D σ H := by
  refine ⟨fun ρ k k' E E' hk hE q => h.mn _ _ _ E E' (fun d ⟨ds, h1, h2⟩ => ⟨ds, h1, hk.nx _ h2⟩) hE q, ?_⟩
  rintro D σ H ⟨H0, B0, B, ρ, r, q⟩
  refine ⟨B, _, r.pre, r.viewN, h.mn _ _ _ _ _ (fun d hd v B1 H1 s ro => ?_) (fun x hx => hx.repN r) q⟩
  obtain ⟨ds, rfl, hd⟩ := hd
  obtain ⟨a, vs, rfl, h1, h2, h3, h4⟩ := ro
  refine hd _ B1 H1 ((r.goN s).setO h1 h2 h3 (fresh0 r.st h4) fun j' ds' n q1 q2 => ?_) s.b
  obtain ⟨⟨us, e⟩, _⟩ := r.ownH ⟨j', ds', q1, q2⟩
  rw [h4] at e; cases e
theorem ownB_ok {f : DR} {i : Nat} (h : ER X c W e f) : MnS (sOwnB i f) ∧ ∀ D σ H, tS c W (sOwnB i f) D σ H → tAsg (tR c W f) (gName i) D σ H := by
  refine ⟨fun ρ k k' E E' hk hE q => h.mn _ _ _ E E' (fun d ⟨ds, h1, h2, h3⟩ => ⟨ds, h1, h2, hk.nx _ h3⟩) hE q, ?_⟩
  rintro D σ H ⟨H0, B0, B, ρ, r, q⟩
  obtain ⟨Bp, pp, sm, l, rv⟩ := r.lend
  refine ⟨Bp, _, pp, rv, h.mn _ _ _ _ _ (fun d hd v B1 H1 s ro => ?_) (fun x hx => hx.rep r sm l) q⟩
  obtain ⟨ds, rfl, hl, hd⟩ := hd
  obtain ⟨a, vs, rfl, h1, h2, h3, h4⟩ := ro
  obtain ⟨B', r', s', off, kp⟩ := r.goB sm l s
  have na : ¬ OwnAt ρ σ a := fun z => by
    obtain ⟨⟨us, e⟩, _⟩ := r.ownH z
    rw [h4] at e; cases e
  exact hd _ B' H1 (r'.setO h1 (h2.but kp hl) ((off a na).trans h3) (fresh0 r.st h4) fun j' ds' n q1 q2 => na ⟨j', ds', q1, q2⟩) s'
theorem ss_set {f : DS} {te : TE} {i : Nat} {x : Str} {pos' : Pos} (hok : MnS f ∧ ∀ D σ H, tS c W f D σ H → tAsg te (gName i) D σ H) (he : PE X e te) (hN : X.N.Nodup) (hi : X.N[i]? = some x := by rfl) (hx : Loc X.env.scope x := by first | exact Or.inl rfl | exact Or.inr rfl)
    (hs : swapsWith e (some (.Name x pos')) pos.line X.env = pure false := by rfl) (hf : X.fn x = true ∨ X.env.scope.names.lookup x = some .local := by first | exact .inl rfl | exact .inr rfl) : SS X c W (.Assign [.Name x pos'] e pos) f :=
  ⟨hok.1, wkS (ps_set hN hi hx he hs hf) hok.2⟩
theorem ss_setN {f : DV} {i : Nat} {x : Str} {pos' : Pos} (m : Fm X W j) (h : EV X c W e f) (hi : X.N[i]? = some x := by rfl) (hx : Loc X.env.scope x := by first | exact Or.inl rfl | exact Or.inr rfl)
    (hs : swapsWith e (some (.Name x pos')) pos.line X.env = pure false := by rfl) (hf : X.fn x = true ∨ X.env.scope.names.lookup x = some .local := by first | exact .inl rfl | exact .inr rfl) : SS X c W (.Assign [.Name x pos'] e pos) (sSetN i f) := ss_set (setN_ok h) h.pe m.nd hi hx hs hf
theorem ss_setB {f : DV} {i : Nat} {x : Str} {pos' : Pos} (m : Fm X W j) (h : EV X c W e f) (hi : X.N[i]? = some x := by rfl) (hx : Loc X.env.scope x := by first | exact Or.inl rfl | exact Or.inr rfl)
    (hs : swapsWith e (some (.Name x pos')) pos.line X.env = pure false := by rfl) (hf : X.fn x = true ∨ X.env.scope.names.lookup x = some .local := by first | exact .inl rfl | exact .inr rfl) : SS X c W (.Assign [.Name x pos'] e pos) (sSetB i f) := ss_set (setB_ok h) h.pe m.nd hi hx hs hf
theorem ss_ownN {f : DR} {i : Nat} {x : Str} {pos' : Pos} (m : Fm X W j) (h : ER X c W e f) (hi : X.N[i]? = some x := by rfl) (hx : Loc X.env.scope x := by first | exact Or.inl rfl | exact Or.inr rfl)
    (hs : swapsWith e (some (.Name x pos')) pos.line X.env = pure false := by rfl) (hf : X.fn x = true ∨ X.env.scope.names.lookup x = some .local := by first | exact .inl rfl | exact .inr rfl) : SS X c W (.Assign [.Name x pos'] e pos) (sOwnN i f) := ss_set (ownN_ok h) h.pe m.nd hi hx hs hf
theorem ss_ownB {f : DR} {i : Nat} {x : Str} {pos' : Pos} (m : Fm X W j) (h : ER X c W e f) (hi : X.N[i]? = some x := by rfl) (hx : Loc X.env.scope x := by first | exact Or.inl rfl | exact Or.inr rfl)
    (hs : swapsWith e (some (.Name x pos')) pos.line X.env = pure false := by rfl) (hf : X.fn x = true ∨ X.env.scope.names.lookup x = some .local := by first | exact .inl rfl | exact .inr rfl) : SS X c W (.Assign [.Name x pos'] e pos) (sOwnB i f) := ss_set (ownB_ok h) h.pe m.nd hi hx hs hf
/-- if -/
def sIf (t : DB) (f g : DS) : DS := fun ρ k E => t (viewB ρ) (fun b => (b = true → f ρ k E) ∧ (b = false → g ρ k E)) E
theorem ss_if {t : DB} {x : Expr} {sa sb : List Stmt} (ht : EB X c W x t) (ha : SB X c W sa f) (hb : SB X c W sb g) : SS X c W (.If x sa sb pos) (sIf t f g) := by
  refine ⟨fun ρ k k' E E' hk hE q => ht.mn _ _ _ E E' (fun b q => ⟨fun z => ha.mn _ _ _ _ _ hk hE (q.1 z), fun z => hb.mn _ _ _ _ _ hk hE (q.2 z)⟩) hE q, wkS (ps_if ht.pt ha.ps hb.ps) ?_⟩
  rintro D σ H ⟨H0, B0, B, ρ, r, q⟩
  obtain ⟨Bp, pp, sm, l, rv⟩ := r.lend
  refine ⟨Bp, _, pp, rv, ht.mn _ _ _ _ _ (fun t hd B1 H1 s => ?_) (fun x hx => hx.rep r sm l) q⟩
  obtain ⟨B', r', s', _⟩ := r.goB sm l s
  cases t with
  | true => rw [if_pos rfl]; exact ⟨H0, B0, B', ρ, r', ha.mn _ _ _ _ _ (KS.mono s') (fun _ h => h) (hd.1 rfl)⟩
  | false => rw [if_neg Bool.false_ne_true]; exact ⟨H0, B0, B', ρ, r', hb.mn _ _ _ _ _ (KS.mono s') (fun _ h => h) (hd.2 rfl)⟩
/-- return -/
def sRetN (f : DR) : DS := fun ρ k E => f (viewN ρ) (fun r => k.rt r) E
/-- .. what is owned may be read: it is given away with the frame -/
def sRetB (f : DR) : DS := fun ρ k E => f (viewB ρ) (fun r => k.rt r) E
theorem ss_retB {f : DR} (h : ER X c W e f) : SS X c W (.Return (some e) pos) (sRetB f) := by
  refine ⟨fun ρ k k' E E' hk hE q => h.mn _ _ _ E E' (fun r => hk.rt r) hE q, wkS (ps_ret h.pe) ?_⟩
  rintro D σ H ⟨H0, B0, B, ρ, r, q⟩
  obtain ⟨Bp, pp, sm, l, rv⟩ := r.lend
  exact ⟨Bp, _, pp, rv, h.mn _ _ _ _ _ (fun d hd v B1 H1 s ro => hd v B1 H1 (r.outB sm l s) (ro.up r.st)) (fun x hx => hx.rep r sm l) q⟩
def sRetNone : DS := fun _ k _ => k.rt (.val .non)
theorem ss_retNone : SS X c W (.Return none pos) sRetNone :=
  ⟨fun ρ k k' E E' hk _ h => hk.rt _ h, wkS ps_retN fun D σ H ⟨H0, B0, B, ρ, r, q⟩ => q .non B H r.st (rv_val .non)⟩
/-- return x, x's own list -/
def sRetO (i : Nat) : DS := fun ρ k _ => ∃ ds, ρ[i]? = some (some (.own ds)) ∧ k.rt (.new ds)
theorem ss_retO {i : Nat} {x : Str} {p : Pos} (hN : X.N[i]? = some x := by rfl) (hv : Vis X.env.scope x := by first | exact Or.inl rfl | exact Or.inr (Or.inl rfl) | exact Or.inr (Or.inr rfl)) (hd : (x == ("__debug__" : Str)) = false := by decide)
    (hcd : (x == ("__classdict__" : Str)) = false := by decide) : SS X c W (.Return (some (.Name x p)) pos) (sRetO i) := by
  refine ⟨fun ρ k k' E E' hk hE ⟨ds, h1, h2⟩ => ⟨ds, h1, hk.rt _ h2⟩, wkS (ps_ret (pe_var hN hv hd hcd)) ?_⟩
  rintro D σ H ⟨H0, B0, B, ρ, r, ds, h1, h2⟩
  obtain ⟨a, vs, q1, q2, q3, q4, q5⟩ := r.sl i _ h1
  exact ⟨_, q1, h2 _ B H r.st (rv_new q2 q3 q4 q5)⟩
/-- while -/
def whN (t : DB) (f : DS) : Nat → DS
  | 0 => fun _ _ _ => False
  | n + 1 => fun ρ k E => t (viewB ρ) (fun b => (b = true → f ρ ⟨fun ρ' => whN t f n ρ' k E, k.rt, k.nx, fun ρ' => whN t f n ρ' k E⟩ E) ∧ (b = false → k.nx ρ)) E
def sWhile (t : DB) (f : DS) : DS := fun ρ k E => ∃ n, whN t f n ρ k E
theorem whN_mn {t : DB} (ht : Mn t) (hf : MnS f) : ∀ n, MnS (whN t f n)
  | 0 => fun _ _ _ _ _ _ _ q => q
  | n + 1 => fun ρ k k' E E' hk hE q => ht _ _ _ E E' (fun b q => ⟨fun z => hf ρ ⟨fun ρ' => whN t f n ρ' k E, k.rt, k.nx, fun ρ' => whN t f n ρ' k E⟩ ⟨fun ρ' => whN t f n ρ' k' E', k'.rt, k'.nx, fun ρ' => whN t f n ρ' k' E'⟩ E E' ⟨fun ρ' q => whN_mn ht hf n ρ' k k' E E' hk hE q, hk.rt, hk.nx, fun ρ' q => whN_mn ht hf n ρ' k k' E E' hk hE q⟩ hE (q.1 z), fun z => hk.nx _ (q.2 z)⟩) hE q
theorem ss_while {t : DB} {x : Expr} {body : List Stmt} (m : Fm X W j) (ht : EB X c W x t) (hb : SB X c W body f) : SS X c W (.While x body [] pos) (sWhile t f) := by
  refine ⟨fun ρ k k' E E' hk hE ⟨n, q⟩ => ⟨n, whN_mn ht.mn hb.mn n ρ k k' E E' hk hE q⟩, wkS (ps_while m.po ht.pt hb.ps) ?_⟩
  rintro D σ H ⟨H0, B0, Bs, ρ, r, n, q⟩
  refine ⟨fun m σ H => ∃ B ρ, Rep c H0 B0 B H σ ρ ∧ Same Bs B ∧ whN t f m ρ (KS c H0 B0 Bs D) (Dv.XK c W B0 H0), ⟨n, Bs, ρ, r, Same.refl Bs, q⟩, ?_⟩
  rintro m σ H ⟨B, ρ, r, sb, q⟩
  cases m with
  | zero => exact q.elim
  | succ m =>
    obtain ⟨Bp, pp, sm, l, rv⟩ := r.lend
    refine ⟨Bp, _, pp, rv, ht.mn _ _ _ _ _ (fun t' hd B1 H1 s => ?_) (fun x hx => hx.rep r sm l) q⟩
    obtain ⟨B', r', s', _⟩ := r.goB sm l s
    have sb' : Same Bs B' := fun a o e => s' a o (sb a o e)
    cases t' with
    | true =>
      rw [if_pos rfl]
      refine ⟨fun σ H => ∃ B ρ, Rep c H0 B0 B H σ ρ ∧ Same Bs B ∧ whN t f m ρ (KS c H0 B0 Bs D) (Dv.XK c W B0 H0), fun σ' H' h => ⟨m, Nat.lt_succ_self m, h⟩, H0, B0, B', ρ, r', hb.mn ρ ⟨fun ρ' => whN t f m ρ' (KS c H0 B0 Bs D) (Dv.XK c W B0 H0), (KS c H0 B0 Bs D).rt, (KS c H0 B0 Bs D).nx, fun ρ' => whN t f m ρ' (KS c H0 B0 Bs D) (Dv.XK c W B0 H0)⟩ _ _ _
        ⟨fun ρ' q σ' B' H' r' z => ⟨B', ρ', r', fun a o e => z a o (sb' a o e), q⟩, fun _ h => h, fun ρ' q σ' B' H' r' z => q σ' B' H' r' fun a o e => z a o (sb' a o e), fun ρ' q σ' B' H' r' z => ⟨B', ρ', r', fun a o e => z a o (sb' a o e), q⟩⟩ (fun _ h => h) (hd.1 rfl)⟩
    | false =>
      rw [if_neg Bool.false_ne_true]
      exact hd.2 rfl σ B' H1 r' sb'
end
end Dv

set_option Elab.async false
set_option linter.all false
set_option maxRecDepth 100000
set_option maxHeartbeats 2000000
namespace Dv
open PySem PySem.Spec PyProof.Rows L2

section
variable {K : PySem.W.Frag} {c : Cn K} {H0 B0 B H B1 H1 Bp : Hp} {σ : L2.St} {ρ : Sl}
/-- an owned list is changed -/
theorem Rep.mut (r : Rep c H0 B0 B H σ ρ) {i : Nat} {a : Addr} {vs : List V} {ds ds' : List D} (h : ρ[i]? = some (some (.own ds))) (hs : σ[i]? = some (some (.ref a))) (hi : IsL c B vs ds') : Rep c H0 B0 B (upd H a (.lst vs)) σ (ρ.set i (some (.own ds'))) := by
  obtain ⟨a', vs0, h1, h2, h3, h4, h5⟩ := r.sl i _ h
  rw [hs] at h1; cases h1
  have ha : ∀ b o, B b = some o → b ≠ a := fun b o e z => by rw [z, h4] at e; cases e
  have h0 : ∀ b, H0 b ≠ none → b ≠ a := fun b e z => e (by rw [z]; exact h5)
  have hil : i < ρ.length := (List.getElem?_eq_some_iff.mp h).1
  refine ⟨r.p0, ⟨r.st.b, fun b o e => ?_, r.st.dom, fun b o e n z => ?_, fun b e => ?_, ?_, r.st.av⟩, by rw [List.length_set]; exact r.len, fun j s hj => ?_, fun j k b es fs q1 q2 q3 q4 => ?_⟩
  · rw [upd_ne (ha b o e)]; exact r.pre.bh b o e
  · rw [upd_ne (h0 b (by rw [e]; exact fun z => nomatch z))]; exact r.st.out b o e n z
  · rw [upd_ne (h0 b e)]; exact r.st.th b e
  · exact c.loc _ _ (fun b o m e => by
      refine (upd_ne fun z => ?_).trans e
      rcases m with m | m
      · exact r.p0.nmu h5 (by rw [← z]; exact m)
      · rw [z, h2] at e; cases e; rcases m with ⟨φ, m⟩ | ⟨ob, u, m⟩ <;> cases m) (fun b ob u e => by
      by_cases z : b = a
      · rw [z, upd_same] at e; cases e
      · rw [upd_ne z] at e; exact e) r.st.inv
  · rcases set_get hj with ⟨rfl, hl, e⟩ | ⟨n, hj⟩
    · cases e
      exact ⟨a, vs, hs, upd_same, hi, h4, h5⟩
    · have q := r.sl j s hj
      cases s with
      | val d => exact q
      | own es =>
        obtain ⟨b, us, e1, e2, e3, e4, e5⟩ := q
        have nb : b ≠ a := fun z => n (r.inj j i a es ds hj h (by rw [← z]; exact e1) hs)
        exact ⟨b, us, e1, by rw [upd_ne nb]; exact e2, e3, e4, e5⟩
  · have g : ∀ (j : Nat) (es : List D), (ρ.set i (some (.own ds')))[j]? = some (some (.own es)) → ∃ es', ρ[j]? = some (some (.own es')) := fun j es q => by
      rcases set_get q with ⟨rfl, _, _⟩ | ⟨_, q⟩
      · exact ⟨ds, h⟩
      · exact ⟨es, q⟩
    obtain ⟨es', k1⟩ := g j es q1
    obtain ⟨fs', k2⟩ := g k fs q2
    exact r.inj j k b es' fs' k1 k2 q3 q4
/-- a list that the frame made is taken for good -/
theorem Rep.keepNew (r : Rep c H0 B0 B H σ ρ) {a : Addr} {vs : List V} (h1 : H a = some (.lst vs)) (h3 : B a = none) (h4 : H0 a = none) (na : ¬ OwnAt ρ σ a) : Rep c H0 B0 (upd B a (.lst vs)) H σ ρ := by
  have sm : Same B (upd B a (.lst vs)) := Same.new h3
  refine ⟨r.p0, r.st.keep h4 r.p0 h1 h3, r.len, fun j s hj => ?_, r.inj⟩
  have q := r.sl j s hj
  cases s with
  | val d => exact let ⟨v, e1, e2⟩ := q; ⟨v, e1, e2.mono sm⟩
  | own es =>
    obtain ⟨b, us, e1, e2, e3, e4, e5⟩ := q
    exact ⟨b, us, e1, e2, e3.mono sm, by rw [upd_ne (fun z => na ⟨j, es, hj, by rw [← z]; exact e1⟩)]; exact e4, e5⟩
end

section
variable {X : Cx} {c : Cn X.K} {W : WX} {e a b : Expr} {es : List Expr} {pos p apos cpos : Pos} {f g : DV} {j k : Nat}
theorem own_ty {K : PySem.W.Frag} {H : Hp} {a : Addr} {vs : List V} (h : H a = some (.lst vs)) : tyV K "list" (.ref a) H := Or.inl ⟨rfl, _, Or.inl (Or.inl h)⟩
/-- what a method's call of one argument asks of its own shape -/
structure M1Ok (X : Cx) (e : Expr) (apos cpos : Pos) : Prop where
  few : ((backTo cpos (starEach [e] X.env)).all (fun x => !x.1) && (backToKw cpos (keywordEach [] X.env)).all (fun x => x.1.isSome) && decide ([e].length + ([] : List Keyword).length + (if ([] : List Keyword).isEmpty then 0 else 1) < 30)) = true
  line : (apos.endLine == cpos.line) = true
  st : starEach [e] X.env = (false, eval e X.env) :: starEach [] X.env
/-- x.append(e) -/
def sAppN (i : Nat) (f : DV) : DS := fun ρ k E => ∃ ds, ρ[i]? = some (some (.own ds)) ∧ f (viewN ρ) (fun d => ds.length < sizeLine ∧ k.nx (ρ.set i (some (.own (ds ++ [d]))))) E
def sAppB (i : Nat) (f : DV) : DS := fun ρ k E => ∃ ds, ρ[i]? = some (some (.own ds)) ∧ f (viewB ρ) (fun d => ds.length < sizeLine ∧ d.lf = true ∧ k.nx (ρ.set i (some (.own (ds ++ [d]))))) E
theorem pe_app {x : Str} {te : TE} {i : Nat} (hx : PE X (.Name x p) (tVar i)) (he : PE X e te) (hs : M1Ok X e apos cpos) :
    PE X (.Call (.Attribute (.Name x p) "append" apos) [e] [] cpos) (tBM X.K "list" rAppend (tVar i) (tCons te tNil)) :=
  pe_bm PySem.F.plainAttrs_list PySem.F.slot_list_append PySem.F.type_list_append mt_append hx (pa_cons he pa_nil hs.st) rfl hs.few hs.line hs.st rfl
theorem ss_appN {x : Str} {i : Nat} (hN : X.N[i]? = some x := by rfl) (hv : Vis X.env.scope x := by first | exact Or.inl rfl | exact Or.inr (Or.inl rfl) | exact Or.inr (Or.inr rfl)) (he : EV X c W e f) (hd : (x == ("__debug__" : Str)) = false := by decide)
    (hcd : (x == ("__classdict__" : Str)) = false := by decide) (hs : M1Ok X e apos cpos := by exact ⟨rfl, rfl, rfl⟩) (hw : swapsWith (.Call (.Attribute (.Name x p) "append" apos) [e] [] cpos) none pos.line X.env = pure false := by rfl) :
    SS X c W (.Expr (.Call (.Attribute (.Name x p) "append" apos) [e] [] cpos) pos) (sAppN i f) := by
  refine ⟨fun ρ k k' E E' hk hE ⟨ds, h1, h2⟩ => ⟨ds, h1, he.mn _ _ _ E E' (fun d q => ⟨q.1, hk.nx _ q.2⟩) hE h2⟩, wkS (ps_expr (pe_app (pe_var hN hv hd hcd) he.pe hs) hw) ?_⟩
  rintro D σ H ⟨H0, B0, B, ρ, r, ds, h1, q⟩
  obtain ⟨a, vs, e1, e2, e3, e4, e5⟩ := r.sl i _ h1
  refine ⟨_, e1, own_ty e2, B, _, r.pre, r.viewN, he.mn _ _ _ _ _ (fun d hd v B1 H1 s i1 => ?_) (fun x hx => hx.repN r) q⟩
  have r1 := r.goN s
  obtain ⟨a', vs', k1, k2, k3, k4, k5⟩ := r1.sl i _ h1
  rw [e1] at k1; cases k1
  refine ⟨a, vs', v, rfl, rfl, k2, by rw [k3.length]; exact hd.1, ?_⟩
  exact hd.2 σ B1 _ (r1.mut h1 e1 (k3.append (.cons i1 .nil))) s.b
theorem ss_appB {x : Str} {i : Nat} (hN : X.N[i]? = some x := by rfl) (hv : Vis X.env.scope x := by first | exact Or.inl rfl | exact Or.inr (Or.inl rfl) | exact Or.inr (Or.inr rfl)) (he : EV X c W e f) (hd : (x == ("__debug__" : Str)) = false := by decide)
    (hcd : (x == ("__classdict__" : Str)) = false := by decide) (hs : M1Ok X e apos cpos := by exact ⟨rfl, rfl, rfl⟩) (hw : swapsWith (.Call (.Attribute (.Name x p) "append" apos) [e] [] cpos) none pos.line X.env = pure false := by rfl) :
    SS X c W (.Expr (.Call (.Attribute (.Name x p) "append" apos) [e] [] cpos) pos) (sAppB i f) := by
  refine ⟨fun ρ k k' E E' hk hE ⟨ds, h1, h2⟩ => ⟨ds, h1, he.mn _ _ _ E E' (fun d q => ⟨q.1, q.2.1, hk.nx _ q.2.2⟩) hE h2⟩, wkS (ps_expr (pe_app (pe_var hN hv hd hcd) he.pe hs) hw) ?_⟩
  rintro D σ H ⟨H0, B0, B, ρ, r, ds, h1, q⟩
  obtain ⟨a, vs, e1, e2, e3, e4, e5⟩ := r.sl i _ h1
  obtain ⟨Bp, pp, sm, l, rv⟩ := r.lend
  refine ⟨_, e1, own_ty e2, Bp, _, pp, rv, he.mn _ _ _ _ _ (fun d hd v B1 H1 s i1 => ?_) (fun x hx => hx.rep r sm l) q⟩
  obtain ⟨B', r1, s', _, kp⟩ := r.goB sm l s
  obtain ⟨a', vs', k1, k2, k3, k4, k5⟩ := r1.sl i _ h1
  rw [e1] at k1; cases k1
  refine ⟨a, vs', v, rfl, rfl, k2, by rw [k3.length]; exact hd.1, ?_⟩
  exact hd.2.2 σ B' _ (r1.mut h1 e1 (k3.append (.cons (i1.but kp hd.2.1) .nil))) s'
/-- x.pop(e), x.pop() -/
def popAt (xs : List D) (n : Int) (k : D → List D → Prop) : Prop := -(2 ^ 63) ≤ n ∧ n < 2 ^ 63 ∧ ∃ m z, seqIndex? n xs.length = some m ∧ xs[m]? = some z ∧ k z (xs.eraseIdx m)
theorem pe_popAt {x : Str} {te : TE} {i : Nat} (hx : PE X (.Name x p) (tVar i)) (he : PE X e te) (hs : M1Ok X e apos cpos) :
    PE X (.Call (.Attribute (.Name x p) "pop" apos) [e] [] cpos) (tBM X.K "list" rPopAt (tVar i) (tCons te tNil)) :=
  pe_bm PySem.F.plainAttrs_list PySem.F.slot_list_pop PySem.F.type_list_pop mt_popAt hx (pa_cons he pa_nil hs.st) rfl hs.few hs.line hs.st rfl
/-- y.append(x.pop(e)) -/
def sAppPop (i l : Nat) (f : DV) : DS := fun ρ k E => ∃ ds xs, ρ[i]? = some (some (.own ds)) ∧ ρ[l]? = some (some (.own xs)) ∧ i ≠ l ∧ f (viewB ρ) (fun d => ∃ n, d = .int n ∧ ds.length < sizeLine ∧ popAt xs n fun z r => k.nx ((ρ.set l (some (.own r))).set i (some (.own (ds ++ [z]))))) E
theorem ss_appPop {x y : Str} {i l : Nat} {p2 apos2 cpos2 : Pos} (hx : PE X (.Name x p) (tVar i)) (hy : PE X (.Name y p2) (tVar l)) (he : EV X c W e f)
    (hs : M1Ok X e apos2 cpos2 := by exact ⟨rfl, rfl, rfl⟩) (hs2 : M1Ok X (.Call (.Attribute (.Name y p2) "pop" apos2) [e] [] cpos2) apos cpos := by exact ⟨rfl, rfl, rfl⟩)
    (hw : swapsWith (.Call (.Attribute (.Name x p) "append" apos) [.Call (.Attribute (.Name y p2) "pop" apos2) [e] [] cpos2] [] cpos) none pos.line X.env = pure false := by rfl) :
    SS X c W (.Expr (.Call (.Attribute (.Name x p) "append" apos) [.Call (.Attribute (.Name y p2) "pop" apos2) [e] [] cpos2] [] cpos) pos) (sAppPop i l f) := by
  refine ⟨fun ρ k k' E E' hk hE ⟨ds, xs, h1, h2, h3, h4⟩ => ⟨ds, xs, h1, h2, h3, he.mn _ _ _ E E' (fun d ⟨n, q0, q1, q2, q3, m, z, q4, q5, q6⟩ => ⟨n, q0, q1, q2, q3, m, z, q4, q5, hk.nx _ q6⟩) hE h4⟩, wkS (ps_expr (pe_app hx (pe_popAt hy he.pe hs) hs2) hw) ?_⟩
  rintro D σ H ⟨H0, B0, B, ρ, r, ds, xs, h1, h2, h3, q⟩
  obtain ⟨a, vs, e1, e2, e3, e4, e5⟩ := r.sl i _ h1
  obtain ⟨b, us, g1, g2, g3, g4, g5⟩ := r.sl l _ h2
  obtain ⟨Bp, pp, sm, ln, rv⟩ := r.lend
  refine ⟨_, e1, own_ty e2, _, g1, own_ty g2, Bp, _, pp, rv, he.mn _ _ _ _ _ (fun d hd v B1 H1 s i1 => ?_) (fun x hx => hx.rep r sm ln) q⟩
  obtain ⟨n, rfl, q1, q2, q3, m, z, q4, q5, q6⟩ := hd
  cases i1
  obtain ⟨B', r1, s', _, kp⟩ := r.goB sm ln s
  obtain ⟨a', vs', k1, k2, k3, k4, k5⟩ := r1.sl i _ h1
  rw [e1] at k1; cases k1
  obtain ⟨b', us', w1, w2, w3, w4, w5⟩ := r1.sl l _ h2
  rw [g1] at w1; cases w1
  obtain ⟨zv, z1, z2⟩ := w3.get q5
  have nab : a ≠ b := fun z => h3 (r1.inj i l a ds xs h1 h2 e1 (by rw [z]; exact g1))
  refine ⟨b, us', n, m, zv, rfl, rfl, w2, q2, q3, by rw [w3.length]; exact q4, z1, a, vs', zv, rfl, rfl, by rw [upd_ne nab]; exact k2, by rw [k3.length]; exact q1, ?_⟩
  have r2 := r1.mut h2 g1 (w3.erase m)
  have h1' : (ρ.set l (some (.own (xs.eraseIdx m))))[i]? = some (some (.own ds)) := by rw [List.getElem?_set_ne (Ne.symm h3)]; exact h1
  exact q6 σ B' _ (r2.mut h1' e1 (k3.append (.cons z2 .nil))) s'
/-- v = x.pop(e) -/
def sSetPop (i l : Nat) (f : DV) : DS := fun ρ k E => ∃ xs, ρ[l]? = some (some (.own xs)) ∧ f (viewB ρ) (fun d => ∃ n, d = .int n ∧ popAt xs n fun z r => k.nx ((ρ.set l (some (.own r))).set i (some (.val z)))) E
theorem ss_setPop {x y : Str} {i l : Nat} {p2 apos2 cpos2 : Pos} (m : Fm X W j) (hy : PE X (.Name y p2) (tVar l)) (he : EV X c W e f) (hi : X.N[i]? = some x := by rfl) (hx : Loc X.env.scope x := by first | exact Or.inl rfl | exact Or.inr rfl)
    (hs : M1Ok X e apos2 cpos2 := by exact ⟨rfl, rfl, rfl⟩)
    (hw : swapsWith (.Call (.Attribute (.Name y p2) "pop" apos2) [e] [] cpos2) (some (.Name x p)) pos.line X.env = pure false := by rfl) (hf : X.fn x = true ∨ X.env.scope.names.lookup x = some .local := by first | exact .inl rfl | exact .inr rfl) :
    SS X c W (.Assign [.Name x p] (.Call (.Attribute (.Name y p2) "pop" apos2) [e] [] cpos2) pos) (sSetPop i l f) := by
  refine ⟨fun ρ k k' E E' hk hE ⟨xs, h2, h4⟩ => ⟨xs, h2, he.mn _ _ _ E E' (fun d ⟨n, q0, q2, q3, m, z, q4, q5, q6⟩ => ⟨n, q0, q2, q3, m, z, q4, q5, hk.nx _ q6⟩) hE h4⟩, wkS (ps_set m.nd hi hx (pe_popAt hy he.pe hs) hw hf) ?_⟩
  rintro D σ H ⟨H0, B0, B, ρ, r, xs, h2, q⟩
  obtain ⟨b, us, g1, g2, g3, g4, g5⟩ := r.sl l _ h2
  obtain ⟨Bp, pp, sm, ln, rv⟩ := r.lend
  refine ⟨_, g1, own_ty g2, Bp, _, pp, rv, he.mn _ _ _ _ _ (fun d hd v B1 H1 s i1 => ?_) (fun x hx => hx.rep r sm ln) q⟩
  obtain ⟨n, rfl, q2, q3, m, z, q4, q5, q6⟩ := hd
  cases i1
  obtain ⟨B', r1, s', _, kp⟩ := r.goB sm ln s
  obtain ⟨b', us', w1, w2, w3, w4, w5⟩ := r1.sl l _ h2
  rw [g1] at w1; cases w1
  obtain ⟨zv, z1, z2⟩ := w3.get q5
  refine ⟨b, us', n, m, zv, rfl, rfl, w2, q2, q3, by rw [w3.length]; exact q4, z1, ?_⟩
  exact q6 _ B' _ ((r1.mut h2 g1 (w3.erase m)).setV z2) s'
/-- x.reverse() -/
def sRev (i : Nat) : DS := fun ρ k _ => ∃ ds, ρ[i]? = some (some (.own ds)) ∧ k.nx (ρ.set i (some (.own ds.reverse)))
theorem ss_rev {x : Str} {i : Nat} (hx : PE X (.Name x p) (tVar i)) (hl : (apos.endLine == cpos.line) = true := by rfl) (hw : swapsWith (.Call (.Attribute (.Name x p) "reverse" apos) [] [] cpos) none pos.line X.env = pure false := by rfl) :
    SS X c W (.Expr (.Call (.Attribute (.Name x p) "reverse" apos) [] [] cpos) pos) (sRev i) := by
  refine ⟨fun ρ k k' E E' hk hE ⟨ds, h1, h2⟩ => ⟨ds, h1, hk.nx _ h2⟩, wkS (ps_expr (pe_bm0 PySem.F.plainAttrs_list PySem.F.slot_list_reverse PySem.F.type_list_reverse mt_reverse hx rfl hl) hw) ?_⟩
  rintro D σ H ⟨H0, B0, B, ρ, r, ds, h1, q⟩
  obtain ⟨a, vs, e1, e2, e3, e4, e5⟩ := r.sl i _ h1
  exact ⟨_, e1, own_ty e2, a, vs, rfl, rfl, e2, q σ B _ (r.mut h1 e1 e3.reverse) (Same.refl B)⟩
/-- x[e2] = e -/
def sPutN (i : Nat) (f g : DV) : DS := fun ρ k E => ∃ ds, ρ[i]? = some (some (.own ds)) ∧ f (viewN ρ) (fun d => g (viewB ρ) (fun u => ∃ n m, u = .int n ∧ ixN ds.length n = some m ∧ k.nx (ρ.set i (some (.own (ds.set m d))))) E) E
def sPutB (i : Nat) (f g : DV) : DS := fun ρ k E => ∃ ds, ρ[i]? = some (some (.own ds)) ∧ f (viewB ρ) (fun d => d.lf = true ∧ g (viewB ρ) (fun u => ∃ n m, u = .int n ∧ ixN ds.length n = some m ∧ k.nx (ρ.set i (some (.own (ds.set m d))))) E) E
theorem put_end {x : V} {B Bs : Hp} {H H0 B0 : Hp} {σ : L2.St} {ρ : Sl} {i : Nat} {d : D} {ds : List D} {D : Ends} {E : Exn → Prop} (r : Rep c H0 B0 B H σ ρ) (sb : Same Bs B) (hg : EV X c W b g) (ix : Is c B x d) (hE : ∀ z, E z → XK c W B0 H0 z) (h1 : ρ[i]? = some (some (.own ds)))
    (hq : g (viewB ρ) (fun u => ∃ n m, u = .int n ∧ ixN ds.length n = some m ∧ (KS c H0 B0 Bs D).nx (ρ.set i (some (.own (ds.set m d))))) E) :
    tVar i σ H fun o H1 => tV c W g σ H1 fun u H2 => rSetL o u x H2 fun H3 => D.nx σ H3 := by
  obtain ⟨a, vs, ha, _⟩ := r.sl i _ h1
  obtain ⟨Bp, pp, sm, ln, rv⟩ := r.lend
  refine ⟨_, ha, Bp, _, pp, rv, hg.mn _ _ _ _ _ (fun u hu v B1 H1 s i1 => ?_) (fun x hx => (hE _ hx).rep r sm ln) hq⟩
  obtain ⟨n, m, rfl, h2, h3⟩ := hu
  cases i1
  obtain ⟨B', r1, s', _, kp⟩ := r.goB sm ln s
  obtain ⟨a', vs', k1, k2, k3, k4, k5⟩ := r1.sl i _ h1
  rw [ha] at k1; cases k1
  refine ⟨a, vs', n, m, rfl, rfl, k2, by rw [k3.length]; exact h2, ?_⟩
  exact h3 σ B' _ (r1.mut h1 ha (k3.set (ix.mono s') m)) fun a o e => s' a o (sb a o e)
end
end Dv

set_option Elab.async false
set_option linter.all false
set_option maxRecDepth 100000
set_option maxHeartbeats 2000000
namespace Dv
open PySem PySem.Spec PyProof.Rows L2
section
variable {X : Cx} {c : Cn X.K} {W : WX} {e a b : Expr} {es : List Expr} {pos p apos cpos : Pos} {f g : DV} {j k : Nat}
structure PutOk (X : Cx) (x : Str) (p p2 pos : Pos) (b e : Expr) : Prop where
  asg : ∀ v, assign (.Subscript (.Name x p) b p2) X.env v = (do
      let ov ← holding [v] (eval (.Name x p) X.env)
      let iv ← holding [v, ov] (eval b X.env)
      standAt p2
      holding [v, ov, iv] (setItem ov iv v)
      release [v, ov, iv] [])
  sw : swapsWithSole [.Subscript (.Name x p) b p2] e pos.line X.env = pure false
  st : swappedStores [.Subscript (.Name x p) b p2] e X.env = pure none
  ea : (assignEach [.Subscript (.Name x p) b p2] X.env).map (·.2) = [assign (.Subscript (.Name x p) b p2) X.env]
theorem ss_putN {x : Str} {i : Nat} {p2 : Pos} (hx : PE X (.Name x p) (tVar i)) (hi : EV X c W b g) (he : EV X c W e f) (ok : PutOk X x p p2 pos b e := by exact ⟨fun _ => rfl, rfl, rfl, rfl⟩) : SS X c W (.Assign [.Subscript (.Name x p) b p2] e pos) (sPutN i f g) := by
  refine ⟨fun ρ k k' E E' hk hE ⟨ds, h0, q⟩ => ⟨ds, h0, he.mn _ _ _ E E' (fun d q => hi.mn _ _ _ E E' (fun u ⟨n, m, h2, h3, h4⟩ => ⟨n, m, h2, h3, hk.nx _ h4⟩) hE q) hE q⟩, wkS (ps_asg he.pe (pg_sub hx hi.pe set_list ok.asg) ok.sw ok.st ok.ea) ?_⟩
  rintro D σ H ⟨H0, B0, B, ρ, r, ds, h0, q⟩
  refine ⟨B, _, r.pre, r.viewN, he.mn _ _ _ _ _ (fun d hd v B1 H1 s i1 => ?_) (fun x hx => hx.repN r) q⟩
  exact put_end (r.goN s) s.b hi i1 (fun _ z => z) h0 hd
theorem ss_putB {x : Str} {i : Nat} {p2 : Pos} (hx : PE X (.Name x p) (tVar i)) (hi : EV X c W b g) (he : EV X c W e f) (ok : PutOk X x p p2 pos b e := by exact ⟨fun _ => rfl, rfl, rfl, rfl⟩) : SS X c W (.Assign [.Subscript (.Name x p) b p2] e pos) (sPutB i f g) := by
  refine ⟨fun ρ k k' E E' hk hE ⟨ds, h0, q⟩ => ⟨ds, h0, he.mn _ _ _ E E' (fun d q => ⟨q.1, hi.mn _ _ _ E E' (fun u ⟨n, m, h2, h3, h4⟩ => ⟨n, m, h2, h3, hk.nx _ h4⟩) hE q.2⟩) hE q⟩, wkS (ps_asg he.pe (pg_sub hx hi.pe set_list ok.asg) ok.sw ok.st ok.ea) ?_⟩
  rintro D σ H ⟨H0, B0, B, ρ, r, ds, h0, q⟩
  obtain ⟨Bp, pp, sm, ln, rv⟩ := r.lend
  refine ⟨Bp, _, pp, rv, he.mn _ _ _ _ _ (fun d hd v B1 H1 s i1 => ?_) (fun x hx => hx.rep r sm ln) q⟩
  obtain ⟨B', r1, s', _, kp⟩ := r.goB sm ln s
  exact put_end r1 s' hi (i1.but kp hd.1) (fun _ z => z) h0 hd.2

/-! ### targets -/
abbrev DG := D → Sl → (Sl → Prop) → Prop
abbrev DGs := List D → Sl → (Sl → Prop) → Prop
/-- the slots at S may differ -/
def But (S : List Nat) (σ σ' : L2.St) : Prop := σ'.length = σ.length ∧ ∀ i, i ∉ S → σ'[i]? = σ[i]?
theorem But.refl (S : List Nat) (σ : L2.St) : But S σ σ := ⟨rfl, fun _ _ => rfl⟩
theorem But.trans {S S' : List Nat} {σ σ1 σ2 : L2.St} (a : But S σ σ1) (b : But S' σ1 σ2) : But (S ++ S') σ σ2 :=
  ⟨b.1.trans a.1, fun i h => (b.2 i fun z => h (List.mem_append_right _ z)).trans (a.2 i fun z => h (List.mem_append_left _ z))⟩
theorem But.set (σ : L2.St) (i : Nat) (x : Option V) : But [i] σ (σ.set i x) := ⟨List.length_set, fun j h => List.getElem?_set_ne fun z => h (by rw [z]; exact List.mem_singleton.mpr rfl)⟩
def tG {K : PySem.W.Frag} (c : Cn K) (S : List Nat) (g : DG) : TG := fun v σ H Q => ∃ H0 B0 B ρ d, Rep c H0 B0 B H σ ρ ∧ Is c B v d ∧ g d ρ (fun ρ' => ∀ σ', Rep c H0 B0 B H σ' ρ' → But S σ σ' → Q σ' H)
def tGs {K : PySem.W.Frag} (c : Cn K) (S : List Nat) (g : DGs) : TGs := fun vs σ H Q => ∃ H0 B0 B ρ ds, Rep c H0 B0 B H σ ρ ∧ IsL c B vs ds ∧ g ds ρ (fun ρ' => ∀ σ', Rep c H0 B0 B H σ' ρ' → But S σ σ' → Q σ' H)
structure GT (X : Cx) (c : Cn X.K) (S : List Nat) (t : Expr) (g : DG) : Prop where
  mn : ∀ d ρ (k k' : Sl → Prop), (∀ ρ, k ρ → k' ρ) → g d ρ k → g d ρ k'
  pg : PG X t (tG c S g)
structure GTs (X : Cx) (c : Cn X.K) (S : List Nat) (ts : List Expr) (g : DGs) : Prop where
  mn : ∀ ds ρ (k k' : Sl → Prop), (∀ ρ, k ρ → k' ρ) → g ds ρ k → g ds ρ k'
  pg : PGs X ts (tGs c S g)
theorem wkG {X : Cx} {e : Expr} {t t' : TG} (p : PG X e t) (w : ∀ v σ H Q, t' v σ H Q → t v σ H Q) : PG X e t' := ⟨fun pins s σ H v u Q I r h => p.run pins s σ H v u Q I r (w _ _ _ _ h)⟩
theorem wkGs {X : Cx} {e : List Expr} {t t' : TGs} (p : PGs X e t) (w : ∀ v σ H Q, t' v σ H Q → t v σ H Q) : PGs X e t' := ⟨fun pins s σ H v u Q I r h => p.run pins s σ H v u Q I r (w _ _ _ _ h)⟩
def gN (i : Nat) : DG := fun d ρ k => k (ρ.set i (some (.val d)))
theorem gt_name {i : Nat} {x : Str} (hN : X.N.Nodup) (hi : X.N[i]? = some x := by rfl) (hx : Loc X.env.scope x := by first | exact Or.inl rfl | exact Or.inr rfl) (hf : X.fn x = true ∨ X.env.scope.names.lookup x = some .local := by first | exact .inl rfl | exact .inr rfl) : GT X c [i] (.Name x pos) (gN i) :=
  ⟨fun d ρ k k' hk q => hk _ q, wkG (pg_name hN hi hx hf) fun v σ H Q ⟨H0, B0, B, ρ, d, r, i1, q⟩ => q _ (r.setV i1) (But.set _ _ _)⟩
def gNil : DGs := fun ds ρ k => ds = [] ∧ k ρ
def gCons (g : DG) (h : DGs) : DGs := fun ds ρ k => ∃ d r, ds = d :: r ∧ g d ρ (fun ρ' => h r ρ' k)
theorem gts_nil : GTs X c [] [] gNil := by
  refine ⟨fun d ρ k k' hk q => ⟨q.1, hk _ q.2⟩, wkGs pgs_nil ?_⟩
  rintro vs σ H Q ⟨H0, B0, B, ρ, d, r, i1, rfl, q⟩
  cases i1
  exact ⟨rfl, q _ r (But.refl _ _)⟩
theorem gts_cons {S S' : List Nat} {t : Expr} {ts : List Expr} {g : DG} {h : DGs} (h1 : GT X c S t g) (h2 : GTs X c S' ts h) (hs : (assignEach (t :: ts) X.env).map (·.2) = assign t X.env :: (assignEach ts X.env).map (·.2) := by rfl) : GTs X c (S ++ S') (t :: ts) (gCons g h) := by
  refine ⟨fun ds ρ k k' hk ⟨d, r, e, q⟩ => ⟨d, r, e, h1.mn d ρ _ _ (fun ρ' q => h2.mn r ρ' k k' hk q) q⟩, wkGs (pgs_cons h1.pg h2.pg hs) ?_⟩
  rintro vs σ H Q ⟨H0, B0, B, ρ, ds, r, i1, d, ds', rfl, q⟩
  cases i1 with
  | cons i1 il =>
    refine ⟨_, _, rfl, H0, B0, B, ρ, d, r, i1, h1.mn d ρ _ _ (fun ρ' q σ' r' b1 => ?_) q⟩
    exact ⟨H0, B0, B, ρ', ds', r', il, h2.mn _ _ _ _ (fun ρ2 q σ2 r2 b2 => q σ2 r2 (b1.trans b2)) q⟩
def gTup (n : Nat) (h : DGs) : DG := fun d ρ k => ∃ ds, d = .tup ds ∧ ds.length = n ∧ h ds ρ k
theorem gt_tup {S : List Nat} {ts : List Expr} {h : DGs} {n x1 : Nat} (hc : X.calm = true) (hg : GTs X c S ts h) (hn : (assignEach ts X.env).length = n := by rfl) (hst : (assignEach ts X.env).findIdx? (·.1) = none := by rfl) : GT X c S (.Tuple ts x1 pos) (gTup n h) := by
  refine ⟨fun d ρ k k' hk ⟨ds, h1, h2, q⟩ => ⟨ds, h1, h2, hg.mn ds ρ k k' hk q⟩, wkG (pg_tup hc hg.pg hn hst) ?_⟩
  rintro v σ H Q ⟨H0, B0, B, ρ, d, r, i1, ds, rfl, h2, q⟩
  cases i1 with
  | tup h3 il => exact ⟨_, _, rfl, SqT.of (r.pre.bh _ _ h3), by rw [il.length]; exact h2, H0, B0, B, ρ, ds, r, il, q⟩
/-- target = e -/
structure AsgOk (X : Cx) (tg e : Expr) (pos : Pos) : Prop where
  sw : swapsWithSole [tg] e pos.line X.env = pure false
  st : swappedStores [tg] e X.env = pure none
  ea : (assignEach [tg] X.env).map (·.2) = [assign tg X.env]
def sAsgN (f : DV) (g : DG) : DS := fun ρ k E => f (viewN ρ) (fun d => g d ρ k.nx) E
def sAsgB (f : DV) (g : DG) : DS := fun ρ k E => f (viewB ρ) (fun d => d.lf = true ∧ g d ρ k.nx) E
theorem ss_asgN {S : List Nat} {t : Expr} {g : DG} (he : EV X c W e f) (hg : GT X c S t g) (ok : AsgOk X t e pos := by exact ⟨rfl, rfl, rfl⟩) : SS X c W (.Assign [t] e pos) (sAsgN f g) := by
  refine ⟨fun ρ k k' E E' hk hE q => he.mn _ _ _ E E' (fun d q => hg.mn _ _ _ _ hk.nx q) hE q, wkS (ps_asg he.pe hg.pg ok.sw ok.st ok.ea) ?_⟩
  rintro D σ H ⟨H0, B0, B, ρ, r, q⟩
  refine ⟨B, _, r.pre, r.viewN, he.mn _ _ _ _ _ (fun d hd v B1 H1 s i1 => ?_) (fun x hx => hx.repN r) q⟩
  exact ⟨H0, B0, B1, ρ, d, r.goN s, i1, hg.mn _ _ _ _ (fun ρ' q σ' r' _ => q σ' B1 H1 r' s.b) hd⟩
theorem ss_asgB {S : List Nat} {t : Expr} {g : DG} (he : EV X c W e f) (hg : GT X c S t g) (ok : AsgOk X t e pos := by exact ⟨rfl, rfl, rfl⟩) : SS X c W (.Assign [t] e pos) (sAsgB f g) := by
  refine ⟨fun ρ k k' E E' hk hE q => he.mn _ _ _ E E' (fun d q => ⟨q.1, hg.mn _ _ _ _ hk.nx q.2⟩) hE q, wkS (ps_asg he.pe hg.pg ok.sw ok.st ok.ea) ?_⟩
  rintro D σ H ⟨H0, B0, B, ρ, r, q⟩
  obtain ⟨Bp, pp, sm, ln, rv⟩ := r.lend
  refine ⟨Bp, _, pp, rv, he.mn _ _ _ _ _ (fun d hd v B1 H1 s i1 => ?_) (fun x hx => hx.rep r sm ln) q⟩
  obtain ⟨B', r1, s', _, kp⟩ := r.goB sm ln s
  exact ⟨H0, B0, B', ρ, d, r1, i1.but kp hd.1, hg.mn _ _ _ _ (fun ρ' q σ' r' _ => q σ' B' H1 r' s') hd.2⟩
/-- x, y = e1, e2: o tells which name is to hold a list alone -/
def slotR : Bool → Rv → Option Slot
  | true, .new ds => some (.own ds)
  | false, .new ds => some (.val (.lst ds))
  | true, .val _ => none
  | false, .val d => some (.val d)
def PutR {K : PySem.W.Frag} (c : Cn K) (H0 B H : Hp) (σ : L2.St) (ρ : Sl) (v : V) : Rv → Prop
  | .val d => Is c B v d
  | .new ds => ∃ a vs, v = .ref a ∧ H a = some (.lst vs) ∧ IsL c B vs ds ∧ B a = none ∧ H0 a = none ∧ ¬ OwnAt ρ σ a
theorem Rep.setR {K : PySem.W.Frag} {c : Cn K} {H0 B0 B H : Hp} {σ : L2.St} {ρ : Sl} (r : Rep c H0 B0 B H σ ρ) {i : Nat} {v : V} {u : Rv} {o : Bool} {s : Slot} (hs : slotR o u = some s) (hu : PutR c H0 B H σ ρ v u) :
    ∃ B', Rep c H0 B0 B' H (σ.set i (some v)) (ρ.set i (some s)) ∧ Same B B' ∧ (∀ d, u = .val d → B' = B) ∧ (∀ ds b, u = .new ds → V.ref b ≠ v → B' b = B b) ∧ ∀ es, s = .own es → ∃ ds, u = .new ds := by
  cases u with
  | val d =>
    cases o with
    | true => cases hs
    | false =>
      cases hs
      exact ⟨B, r.setV hu, Same.refl B, fun _ _ => rfl, fun _ _ z => (nomatch z), fun _ z => (nomatch z)⟩
  | new ds =>
    obtain ⟨a, vs, rfl, h1, h2, h3, h4, h5⟩ := hu
    cases o with
    | true =>
      cases hs
      exact ⟨B, r.setO h1 h2 h3 h4 fun j' ds' n q1 q2 => h5 ⟨j', ds', q1, q2⟩, Same.refl B, fun _ z => (nomatch z), fun _ _ _ _ => rfl, fun _ _ => ⟨ds, rfl⟩⟩
    | false =>
      cases hs
      exact ⟨_, (r.keepNew h1 h3 h4 h5).setV (.lst upd_same (h2.mono (Same.new h3))), Same.new h3, fun _ z => (nomatch z), fun _ b _ n => upd_ne fun z => n (by rw [z]), fun _ _ => ⟨ds, rfl⟩⟩
def sParN (i l : Nat) (oi ol : Bool) (f g : DR) : DS := fun ρ k E => f (viewN ρ) (fun u => g (viewN ρ) (fun w => ∃ s t, slotR oi u = some s ∧ slotR ol w = some t ∧ k.nx ((ρ.set i (some s)).set l (some t))) E) E
def lfR : Rv → Bool
  | .val d => d.lf
  | .new ds => D.lf.lfL ds
def sParB (i l : Nat) (oi ol : Bool) (f g : DR) : DS := fun ρ k E => f (viewB ρ) (fun u => g (viewB ρ) (fun w => (lfR u = true ∧ lfR w = true) ∧ ∃ s t, slotR oi u = some s ∧ slotR ol w = some t ∧ k.nx ((ρ.set i (some s)).set l (some t))) E) E
theorem par_mn {f g : DR} {Q Q' : Rv → Rv → Prop} {ρ : View} {E E' : Exn → Prop} (hf : Mn f) (hg : Mn g) (h : ∀ u w, Q u w → Q' u w) (hE : ∀ x, E x → E' x) (q : f ρ (fun u => g ρ (fun w => Q u w) E) E) : f ρ (fun u => g ρ (fun w => Q' u w) E') E' :=
  hf _ _ _ _ _ (fun u q => hg _ _ _ _ _ (fun w => h u w) hE q) hE q
/-- both values, at the end of the second -/
structure Two {K : PySem.W.Frag} (c : Cn K) (H B2 H2 : Hp) (v w : V) (u z : Rv) : Prop where
  one : RvOk c H B2 H2 v u
  two : RvOk c H B2 H2 w z
  ne : ∀ ds es, u = .new ds → z = .new es → v ≠ w
theorem pa_two {X : Cx} {c : Cn X.K} {W : WX} {a b : Expr} {f g : DR} (ha : ER X c W a f) (hb : ER X c W b g) (h1 : starEach [a, b] X.env = (false, eval a X.env) :: starEach [b] X.env) (h2 : starEach [b] X.env = (false, eval b X.env) :: starEach [] X.env) :
    PA X [a, b] fun σ H Q => ∃ B ρ, Pre c B H ∧ RepV c B σ ρ ∧ f ρ (fun u => g ρ (fun z => ∀ v w B2 H2, Step c B H B2 H2 → Two c H B2 H2 v w u z → Q [v, w] H2) (XK c W B H)) (XK c W B H) := by
  refine wkA (pa_cons ha.pe (pa_cons hb.pe pa_nil h2) h1) ?_
  rintro σ H Q ⟨B, ρ, p, rp, q⟩
  refine ⟨B, ρ, p, rp, ha.mn _ _ _ _ _ (fun u hu v B1 H1 s1 r1 => ?_) (fun _ z => z) q⟩
  refine ⟨B1, ρ, s1.pre, rp.mono s1.b, hb.mn _ _ _ _ _ (fun z hz w B2 H2 s2 r2 => ?_) (fun x z => z.step s1) hu⟩
  refine hz v w B2 H2 (s1.trans s2) ⟨?_, r2.up s1, fun ds es e1 e2 => ?_⟩
  · cases u with
    | val d => exact Is.mono s2.b r1
    | new ds =>
      obtain ⟨a, vs, e1, e2, e3, e4, e5⟩ := r1
      exact ⟨a, vs, e1, s2.out a _ e2 (p.nmu e5) (fun _ z => nomatch z), e3.mono s2.b, by rw [s2.dom a (by rw [e2]; exact fun z => nomatch z)]; exact e4, e5⟩
  · subst e1; subst e2
    obtain ⟨a, vs, e1, e2, _⟩ := r1
    obtain ⟨b, us, f1, _, _, _, f5⟩ := r2
    rintro rfl
    rw [e1] at f1; cases f1
    rw [e2] at f5; cases f5
theorem two_set {K : PySem.W.Frag} {c : Cn K} {H0 B0 B H H1 : Hp} {σ : L2.St} {ρ : Sl} {v w : V} {u z : Rv} {i l : Nat} {oi ol : Bool} {s t : Slot} (r : Rep c H0 B0 B H1 σ ρ) (hz : ∀ a, H a = none → H0 a = none) (na : ∀ a, H a = none → ¬ OwnAt ρ σ a) (T : Two c H B H1 v w u z) (h1 : slotR oi u = some s) (h2 : slotR ol z = some t) :
    ∃ B', Rep c H0 B0 B' H1 ((σ.set i (some v)).set l (some w)) ((ρ.set i (some s)).set l (some t)) ∧ Same B B' := by
  obtain ⟨B1, r1, s1, k1, k2, k3⟩ := r.setR (i := i) h1 (by
    have q := T.one
    cases u with
    | val d => exact q
    | new ds => exact let ⟨a, vs, e1, e2, e3, e4, e5⟩ := q; ⟨a, vs, e1, e2, e3, e4, hz a e5, na a e5⟩)
  have two : PutR c H0 B1 H1 (σ.set i (some v)) (ρ.set i (some s)) w z := by
    have q := T.two
    cases z with
    | val d => exact Is.mono s1 q
    | new es =>
      obtain ⟨a, vs, e1, e2, e3, e4, e5⟩ := q
      subst e1
      refine ⟨a, vs, rfl, e2, e3.mono s1, ?_, hz a e5, ?_⟩
      · cases u with
        | val d => rw [k1 d rfl]; exact e4
        | new ds => rw [k2 ds a rfl (fun q => T.ne ds es rfl rfl q.symm)]; exact e4
      · rintro ⟨n, fs, q1, q2⟩
        rcases set_get q1 with ⟨rfl, hl, q3⟩ | ⟨hn, q3⟩
        · obtain ⟨ds, hu⟩ := k3 fs (Option.some.inj q3)
          rw [List.getElem?_set_self (by rw [← r.len]; exact hl)] at q2
          exact T.ne ds es hu rfl (Option.some.inj (Option.some.inj q2))
        · rw [List.getElem?_set_ne (fun z => hn z.symm)] at q2
          exact na a e5 ⟨n, fs, q3, q2⟩
  obtain ⟨B2, r2, s2, _⟩ := r1.setR (i := l) h2 two
  exact ⟨B2, r2, fun a o e => s2 a o (s1 a o e)⟩
/-- the shape of x, y = e1, e2 -/
structure ParOk (X : Cx) (x y : Str) (px py pt pt2 pos : Pos) (kt k2 : Nat) (a b : Expr) : Prop where
  h1 : starEach [a, b] X.env = (false, eval a X.env) :: starEach [b] X.env
  h2 : starEach [b] X.env = (false, eval b X.env) :: starEach [] X.env
  hx : X.env.scope.names.lookup x = some .local
  hy : X.env.scope.names.lookup y = some .local
  hw : swappedStores [.Tuple [.Name x px, .Name y py] kt pt] (.Tuple [a, b] k2 pt2) X.env = pure (some [x, y])
  hs : swapsWithSole [.Tuple [.Name x px, .Name y py] kt pt] (.Tuple [a, b] k2 pt2) pos.line X.env = pure false
theorem ss_parN {f g : DR} {x y : Str} {i l kt k2 : Nat} {oi ol : Bool} {px py pt pt2 : Pos} (m : Fm X W j) (ha : ER X c W a f) (hb : ER X c W b g) (hi : X.N[i]? = some x := by rfl) (hl : X.N[l]? = some y := by rfl) (hil : i ≠ l := by decide) (ok : ParOk X x y px py pt pt2 pos kt k2 a b := by exact ⟨rfl, rfl, rfl, rfl, by rfl, rfl⟩) :
    SS X c W (.Assign [.Tuple [.Name x px, .Name y py] kt pt] (.Tuple [a, b] k2 pt2) pos) (sParN i l oi ol f g) := by
  refine ⟨fun ρ k k' E E' hk hE q => par_mn ha.mn hb.mn (fun u w ⟨s, t, h1, h2, h3⟩ => ⟨s, t, h1, h2, hk.nx _ h3⟩) hE q, wkS (ps_par m.calm m.nd hi hl hil ok.hx ok.hy (pa_two ha hb ok.h1 ok.h2) ok.hw ok.hs) ?_⟩
  rintro D σ H ⟨H0, B0, B, ρ, r, q⟩
  refine ⟨B, _, r.pre, r.viewN, par_mn ha.mn hb.mn (fun u z q v w B2 H2 s2 T => ?_) (fun x hx => hx.repN r) q⟩
  obtain ⟨s, t, h1, h2, h3⟩ := q
  have na : ∀ a, H a = none → ¬ OwnAt ρ σ a := fun a e o => by
    obtain ⟨⟨us, e'⟩, _⟩ := r.ownH o
    rw [e] at e'; cases e'
  obtain ⟨B', r', s'⟩ := two_set (r.goN s2) (fun a => fresh0 r.st) na T h1 h2
  exact ⟨v, w, rfl, h3 _ B' H2 r' fun a o e => s' a o (s2.b a o e)⟩
theorem Two.but {K : PySem.W.Frag} {c : Cn K} {H B2 B' H2 : Hp} {v w : V} {u z : Rv} (T : Two c H B2 H2 v w u z) (kp : ∀ a o, B2 a = some o → (∀ xs, o ≠ .lst xs) → B' a = some o) (hn : ∀ a, H a = none → B2 a = none → B' a = none) (h1 : lfR u = true) (h2 : lfR z = true) : Two c H B' H2 v w u z := by
  have one : ∀ {v : V} {u : Rv}, lfR u = true → RvOk c H B2 H2 v u → RvOk c H B' H2 v u := fun {v u} h q => by
    cases u with
    | val d => exact Is.but kp q h
    | new ds => exact let ⟨a, vs, e1, e2, e3, e4, e5⟩ := q; ⟨a, vs, e1, e2, e3.but kp h, hn a e5 e4, e5⟩
  exact ⟨one h1 T.one, one h2 T.two, T.ne⟩
theorem ss_parB {f g : DR} {x y : Str} {i l kt k2 : Nat} {oi ol : Bool} {px py pt pt2 : Pos} (m : Fm X W j) (ha : ER X c W a f) (hb : ER X c W b g) (hi : X.N[i]? = some x := by rfl) (hl : X.N[l]? = some y := by rfl) (hil : i ≠ l := by decide) (ok : ParOk X x y px py pt pt2 pos kt k2 a b := by exact ⟨rfl, rfl, rfl, rfl, by rfl, rfl⟩) :
    SS X c W (.Assign [.Tuple [.Name x px, .Name y py] kt pt] (.Tuple [a, b] k2 pt2) pos) (sParB i l oi ol f g) := by
  refine ⟨fun ρ k k' E E' hk hE q => par_mn ha.mn hb.mn (fun u w ⟨h0, s, t, h1, h2, h3⟩ => ⟨h0, s, t, h1, h2, hk.nx _ h3⟩) hE q, wkS (ps_par m.calm m.nd hi hl hil ok.hx ok.hy (pa_two ha hb ok.h1 ok.h2) ok.hw ok.hs) ?_⟩
  rintro D σ H ⟨H0, B0, B, ρ, r, q⟩
  obtain ⟨Bp, pp, sm, ln, rv⟩ := r.lend
  refine ⟨Bp, _, pp, rv, par_mn ha.mn hb.mn (fun u z q v w B2 H2 s2 T => ?_) (fun x hx => hx.rep r sm ln) q⟩
  obtain ⟨h0, s, t, h1, h2, h3⟩ := q
  have na : ∀ a, H a = none → ¬ OwnAt ρ σ a := fun a e o => by
    obtain ⟨⟨us, e'⟩, _⟩ := r.ownH o
    rw [e] at e'; cases e'
  obtain ⟨B1, r1, s1, off, kp⟩ := r.goB sm ln s2
  obtain ⟨B', r', s'⟩ := two_set r1 (fun a => fresh0 r.st) na (T.but kp (fun a e e2 => (off a (na a e)).trans e2) h0.1 h0.2) h1 h2
  exact ⟨v, w, rfl, h3 _ B' H2 r' fun a o e => s' a o (s1 a o e)⟩
end
end Dv

set_option Elab.async false
set_option linter.all false
set_option maxRecDepth 100000
set_option maxHeartbeats 2000000
namespace Dv
open PySem PySem.Spec PyProof.Rows L2
/-- what is walked: the items ds, as long as Bl stands -/
def WalkD {K : PySem.W.Frag} (c : Cn K) (Bl : Hp) (J : It) (ds : List D) : Prop :=
  ∀ (B H : Hp) (i : Nat), Same Bl B → Pre c B H → (∀ d, ds[i]? = some d → J.go i H ∧ ∀ x H', J.yld i H x H' → ∃ B2, Step c B H B2 H' ∧ Is c B2 x d) ∧ (i = ds.length → J.stop i H)
def tI {K : PySem.W.Frag} (c : Cn K) (W : WX) (f : DL) : TI := fun σ H R => ∃ B ρ, Pre c B H ∧ RepV c B σ ρ ∧ f ρ (fun ds => ∀ J B' H', Step c B H B' H' → WalkD c B' J ds → R J H') (XK c W B H)
structure EI (X : Cx) (c : Cn X.K) (W : WX) (tg iter : Expr) (f : DL) : Prop where
  mn : Mn f
  pi : PI X tg iter (tI c W f)
theorem wkI {X : Cx} {tg e : Expr} {t t' : TI} (p : PI X tg e t) (w : ∀ σ H Q, t' σ H Q → t σ H Q) : PI X tg e t' := ⟨fun pins s σ H R I h => p.run pins s σ H R I (w _ _ _ h)⟩
section
variable {X : Cx} {c : Cn X.K} {W : WX} {e a b tg : Expr} {es : List Expr} {pos p apos cpos : Pos} {f g : DV} {j k : Nat}
theorem walk_lst {K : PySem.W.Frag} {c : Cn K} {Bl : Hp} {a : Addr} {vs : List V} {ds : List D} (h : ∀ B H, Same Bl B → Pre c B H → SqL K H a vs) (hi : IsL c Bl vs ds) : WalkD c Bl (Itl K a) ds := by
  intro B H i s p
  have q := h B H s p
  refine ⟨fun d hd => ?_, fun hl => ⟨vs, q, by rw [hi.length]; exact Nat.le_of_eq hl.symm⟩⟩
  obtain ⟨v, h1, h2⟩ := hi.get hd
  refine ⟨⟨vs, v, q, h1⟩, fun x H' ⟨e1, e2⟩ => ?_⟩
  subst e1
  have := e2 vs q
  rw [h1] at this; cases this
  exact ⟨B, Step.refl p, h2.mono s⟩
theorem walk_tup {K : PySem.W.Frag} {c : Cn K} {Bl : Hp} {a : Addr} {vs : List V} {ds : List D} (h : ∀ B H, Same Bl B → Pre c B H → SqT K H a vs) (hi : IsL c Bl vs ds) : WalkD c Bl (Itt K a) ds := by
  intro B H i s p
  have q := h B H s p
  refine ⟨fun d hd => ?_, fun hl => ⟨vs, q, by rw [hi.length]; exact Nat.le_of_eq hl.symm⟩⟩
  obtain ⟨v, h1, h2⟩ := hi.get hd
  refine ⟨⟨vs, v, q, h1⟩, fun x H' ⟨e1, e2⟩ => ?_⟩
  subst e1
  have := e2 vs q
  rw [h1] at this; cases this
  exact ⟨B, Step.refl p, h2.mono s⟩
/-- a list or a tuple is walked -/
def iSeq (K : PySem.W.Frag) (tl : TE) : TI := fun σ H R => tl σ H fun x H1 => ∃ a, x = .ref a ∧ (((∃ xs, SqL K H1 a xs) ∧ R (Itl K a) H1) ∨ ((∃ xs, SqT K H1 a xs) ∧ R (Itt K a) H1))
theorem pi_seq {l : Expr} {tl : TE} (hl : PE X l tl) : PI X tg l (iSeq X.K tl) := by
  refine ⟨fun pins s σ H R I h => ?_⟩
  refine thn (hl.run pins s σ H _ I h) fun v s1 ⟨x, H1, I1, r1, a, ex, q⟩ => ?_
  subst ex
  cases r1
  have fin : ∀ b ∈ [s1.heap.objs.size], FpOk X pins H1 b := fun b hb => by
    have e : b = s1.heap.objs.size := by simpa using hb
    subst e
    exact I1.fpOk (Nat.le_refl _) (I1.hok.fresh (Nat.le_refl _))
  rcases q with ⟨⟨xs, hq⟩, q⟩ | ⟨⟨xs, hq⟩, q⟩
  · obtain ⟨its, rv, pl, hz⟩ := I1.list hq
    refine wpAny_pyIter_list pl.isList ?_
    exact ⟨s1.heap.objs.size, [s1.heap.objs.size], _, _, H1, rfl, I1.kept (t' := s1.toks) (fun b o e => Heap.get?_push_of_some _ e), turn_list a _, ⟨_, Heap.get?_push_size _ rfl, rfl, rfl⟩, fin, q⟩
  · obtain ⟨its, rv, pl, hz⟩ := I1.tuple hq
    refine wpAny_pyIter_tuple (show s1.heap.IsTuple a its.toArray from pl) ?_
    exact ⟨s1.heap.objs.size, [s1.heap.objs.size], _, _, H1, rfl, I1.kept (t' := s1.toks) (fun b o e => Heap.get?_push_of_some _ e), turn_tuple a _, ⟨_, Heap.get?_push_size _ rfl, rfl, rfl⟩, fin, q⟩
def D.items : D → Option (List D)
  | .lst ds => some ds
  | .tup ds => some ds
  | .ro ds => some ds
  | _ => none
def iOf (f : DV) : DL := fun ρ k E => f ρ (fun d => ∃ ds, d.items = some ds ∧ k ds) E
theorem ei_seq (h : EV X c W e f) : EI X c W tg e (iOf f) := by
  refine ⟨fun ρ k k' E E' hk hE q => h.mn _ _ _ E E' (fun d ⟨ds, h1, h2⟩ => ⟨ds, h1, hk _ h2⟩) hE q, wkI (pi_seq h.pe) ?_⟩
  rintro σ H R ⟨B, ρ, p, rp, q⟩
  refine ⟨B, ρ, p, rp, h.mn _ _ _ _ _ (fun d hd v B1 H1 s i1 => ?_) (fun _ z => z) q⟩
  obtain ⟨ds, h1, h2⟩ := hd
  cases i1 with
  | lst h3 r =>
    cases h1
    exact ⟨_, rfl, .inl ⟨⟨_, SqL.of (s.bh _ _ h3)⟩, h2 _ B1 H1 s (walk_lst (fun B H sm p => SqL.of (p.bh _ _ (sm _ _ h3))) r)⟩⟩
  | ro h3 r =>
    cases h1
    exact ⟨_, rfl, .inl ⟨⟨_, Same.l s.bh h3⟩, h2 _ B1 H1 s (walk_lst (fun B H sm p => Same.l p.bh (Same.l sm h3)) r)⟩⟩
  | tup h3 r =>
    cases h1
    exact ⟨_, rfl, .inr ⟨⟨_, SqT.of (s.bh _ _ h3)⟩, h2 _ B1 H1 s (walk_tup (fun B H sm p => SqT.of (p.bh _ _ (sm _ _ h3))) r)⟩⟩
  | _ => cases h1
/-- range -/
def rngD (lo hi : Int) : List D := (List.range (hi - lo).toNat).map fun i => .int (lo + (i : Nat))
theorem walk_rng {K : PySem.W.Frag} {c : Cn K} {Bl : Hp} (lo hi : Int) : WalkD c Bl (Itr lo (hi - lo).toNat) (rngD lo hi) := by
  intro B H i s p
  unfold rngD
  refine ⟨fun d hd => ?_, fun hl => by rw [List.length_map, List.length_range] at hl; exact Nat.le_of_eq hl.symm⟩
  rw [List.getElem?_map] at hd
  cases q : (List.range (hi - lo).toNat)[i]? with
  | none => rw [q] at hd; cases hd
  | some n =>
    rw [q] at hd
    obtain ⟨h1, h2⟩ := List.getElem?_eq_some_iff.mp q
    rw [List.getElem_range] at h2
    subst h2
    cases hd
    rw [List.length_range] at h1
    refine ⟨h1, fun x H' ⟨e1, e2⟩ => ?_⟩
    subst e1; subst e2
    exact ⟨B, Step.refl p, .int _⟩
def rng1 : List D → (List D → Prop) → Prop
  | [.int j], k => (-(2 ^ 62) ≤ j ∧ j < 2 ^ 62) ∧ k (rngD 0 j)
  | _, _ => False
def rng2 : List D → (List D → Prop) → Prop
  | [.int i, .int j], k => (-(2 ^ 62) ≤ i ∧ i < 2 ^ 62 ∧ -(2 ^ 62) ≤ j ∧ j < 2 ^ 62) ∧ k (rngD i j)
  | _, _ => False
def iArg (g : DL) (o : List D → (List D → Prop) → Prop) : DL := fun ρ k E => g ρ (fun ds => o ds k) E
theorem ei_rng1 {g : DL} (hg : Gl X "range") (hm : X.mg "range" = none) (ha : EA X c W [a] g) (hs : starEach [a] X.env = [(false, eval a X.env)] := by rfl) : EI X c W tg (.Call (.Name "range" p) [a] [] pos) (iArg g rng1) := by
  refine ⟨fun ρ k k' E E' hk hE q => ha.mn _ _ _ E E' (fun ds q => ?_) hE q, wkI (pi_range1 hg hm ha.pa hs) ?_⟩
  · unfold rng1 at q ⊢
    split at q
    · exact ⟨q.1, hk _ q.2⟩
    · exact q
  · rintro σ H R ⟨B, ρ, p, rp, q⟩
    refine ⟨B, ρ, p, rp, ha.mn _ _ _ _ _ (fun ds hd vs B1 H1 s i1 => ?_) (fun _ z => z) q⟩
    unfold rng1 at hd
    split at hd
    · obtain ⟨v, rfl, i2⟩ := Is1 i1
      cases i2
      exact ⟨_, rfl, hd.1.1, hd.1.2, hd.2 _ B1 H1 s (by have := walk_rng (c := c) (Bl := B1) 0 (by assumption); simpa using this)⟩
    · exact hd.elim
theorem ei_rng2 {g : DL} (hg : Gl X "range") (hm : X.mg "range" = none) (ha : EA X c W [a, b] g) (hs : starEach [a, b] X.env = [(false, eval a X.env), (false, eval b X.env)] := by rfl) (hs2 : starEach [b] X.env = [(false, eval b X.env)] := by rfl) : EI X c W tg (.Call (.Name "range" p) [a, b] [] pos) (iArg g rng2) := by
  refine ⟨fun ρ k k' E E' hk hE q => ha.mn _ _ _ E E' (fun ds q => ?_) hE q, wkI (pi_range2 hg hm ha.pa hs hs2) ?_⟩
  · unfold rng2 at q ⊢
    split at q
    · exact ⟨q.1, hk _ q.2⟩
    · exact q
  · rintro σ H R ⟨B, ρ, p, rp, q⟩
    refine ⟨B, ρ, p, rp, ha.mn _ _ _ _ _ (fun ds hd vs B1 H1 s i1 => ?_) (fun _ z => z) q⟩
    unfold rng2 at hd
    split at hd
    · obtain ⟨v, w, rfl, i2, i3⟩ := Is2 i1
      cases i2; cases i3
      exact ⟨_, _, rfl, hd.1, hd.2 _ B1 H1 s (walk_rng _ _)⟩
    · exact hd.elim

/-! ### for -/
def forD (g : DG) (f : DS) : List D → DS
  | [] => fun ρ k _ => k.nx ρ
  | d :: ds => fun ρ k E => g d ρ fun ρ' => f ρ' ⟨fun ρ2 => forD g f ds ρ2 k E, k.rt, k.nx, fun ρ2 => forD g f ds ρ2 k E⟩ E
def sFor (fi : DL) (g : DG) (f : DS) : DS := fun ρ k E => fi (viewN ρ) (fun ds => forD g f ds ρ k E) E
theorem forD_mn {g : DG} {f : DS} (hg : ∀ d ρ (k k' : Sl → Prop), (∀ ρ, k ρ → k' ρ) → g d ρ k → g d ρ k') (hf : MnS f) : ∀ ds, MnS (forD g f ds)
  | [] => fun ρ k k' E E' hk _ q => hk.nx ρ q
  | d :: ds => fun ρ k k' E E' hk hE q => hg d ρ _ _ (fun ρ' q => hf ρ' ⟨fun ρ2 => forD g f ds ρ2 k E, k.rt, k.nx, fun ρ2 => forD g f ds ρ2 k E⟩ ⟨fun ρ2 => forD g f ds ρ2 k' E', k'.rt, k'.nx, fun ρ2 => forD g f ds ρ2 k' E'⟩ E E'
      ⟨fun ρ2 q => forD_mn hg hf ds ρ2 k k' E E' hk hE q, hk.rt, hk.nx, fun ρ2 q => forD_mn hg hf ds ρ2 k k' E E' hk hE q⟩ hE q) q
theorem drop_at {α : Type} {l : List α} {i : Nat} {d : α} {r : List α} (h : l.drop i = d :: r) : l[i]? = some d ∧ l.drop (i + 1) = r := by
  constructor
  · have : (l.drop i)[0]? = some d := by rw [h]; rfl
    rw [List.getElem?_drop] at this
    simpa using this
  · have : (l.drop i).drop 1 = r := by rw [h]; rfl
    rw [List.drop_drop] at this
    exact this
theorem ss_for {S : List Nat} {fi : DL} {gt : DG} {fb : DS} {iter : Expr} {body : List Stmt} (m : Fm X W j) (hi : EI X c W tg iter fi) (hg : GT X c S tg gt) (hb : SB X c W body fb) (hs : ∀ x, foldedSetIterable iter X.env x = pure x := by intro _; rfl) : SS X c W (.For tg iter body [] pos) (sFor fi gt fb) := by
  refine ⟨fun ρ k k' E E' hk hE q => hi.mn _ _ _ E E' (fun ds q => forD_mn hg.mn hb.mn ds ρ k k' E E' hk hE q) hE q, wkS (ps_for m.po m.calm hi.pi hg.pg hb.ps hs) ?_⟩
  rintro D σ H ⟨H0, B0, Bs, ρ, r, q⟩
  refine ⟨Bs, _, r.pre, r.viewN, hi.mn _ _ _ _ _ (fun ds hd J B1 H1 s wk => ?_) (fun x hx => hx.repN r) q⟩
  have r1 := r.goN s
  refine ⟨fun i m σ H => m = ds.length - i ∧ i ≤ ds.length ∧ ∃ B ρ, Rep c H0 B0 B H σ ρ ∧ Same B1 B ∧ forD gt fb (ds.drop i) ρ (KS c H0 B0 Bs D) (Dv.XK c W B0 H0), ⟨ds.length, by simp, Nat.zero_le _, B1, ρ, r1, Same.refl B1, hd⟩, ?_⟩
  rintro i m σ H ⟨rfl, hle, B, ρ, r, sb, q⟩
  obtain ⟨w1, w2⟩ := wk B H i sb r.pre
  cases hdr : ds.drop i with
  | nil =>
    rw [hdr] at q
    refine .inl ⟨w2 (Nat.le_antisymm hle (by simpa using hdr)), q σ B H r fun a o e => sb a o (s.b a o e)⟩
  | cons d rest =>
    rw [hdr] at q
    obtain ⟨h1, h2⟩ := drop_at hdr
    obtain ⟨go, yl⟩ := w1 d h1
    have hlt : i < ds.length := (List.getElem?_eq_some_iff.mp h1).1
    refine .inr ⟨go, fun σ H => ∃ B ρ, Rep c H0 B0 B H σ ρ ∧ Same B1 B ∧ forD gt fb rest ρ (KS c H0 B0 Bs D) (Dv.XK c W B0 H0), fun σ' H' ⟨B', ρ', r', s', q'⟩ => ⟨ds.length - (i + 1), by omega, rfl, hlt, B', ρ', r', s', by rw [h2]; exact q'⟩, fun x H' y => ?_⟩
    obtain ⟨B2, st, ix⟩ := yl x H' y
    have sb2 : Same B1 B2 := fun a o e => st.b a o (sb a o e)
    refine ⟨H0, B0, B2, ρ, d, r.goN st, ix, hg.mn _ _ _ _ (fun ρ' q σ' r' _ => ?_) q⟩
    refine ⟨H0, B0, B2, ρ', r', hb.mn ρ' ⟨fun ρ2 => forD gt fb rest ρ2 (KS c H0 B0 Bs D) (Dv.XK c W B0 H0), (KS c H0 B0 Bs D).rt, (KS c H0 B0 Bs D).nx, fun ρ2 => forD gt fb rest ρ2 (KS c H0 B0 Bs D) (Dv.XK c W B0 H0)⟩ _ _ _
      ⟨fun ρ2 q σ2 B3 H3 r3 z => ⟨B3, ρ2, r3, fun a o e => z a o (sb2 a o e), q⟩, fun _ h => h, fun ρ2 q σ2 B3 H3 r3 z => q σ2 B3 H3 r3 fun a o e => z a o (sb2 a o (s.b a o e)), fun ρ2 q σ2 B3 H3 r3 z => ⟨B3, ρ2, r3, fun a o e => z a o (sb2 a o e), q⟩⟩ (fun _ h => h) q⟩
end
end Dv

set_option Elab.async false
set_option linter.all false
set_option maxRecDepth 100000
set_option maxHeartbeats 2000000
namespace Dv
open PySem PySem.Spec PyProof.Rows L2
theorem Step.put {K : PySem.W.Frag} {c : Cn K} {B H B1 H1 : Hp} (s : Step c B H B1 H1) (p : Pre c B H) {a : Addr} {o : HO} (h : H a = none) (hb : B1 a = none) (hk : ∃ u, H1 a = some u ∧ ¬ Kp u) (nf : ∀ ob u, o ≠ .frz ob u := by intro _ _ z; cases z) : Step c B H B1 (upd H1 a o) := by
  refine ⟨s.b, fun b u e => ?_, s.dom, fun b u e n z => ?_, fun b e => ?_, c.loc _ _ (fun b u m e => ?_) (fun b ob u e => ?_) s.inv, s.av⟩
  · rw [upd_ne (ne_of_none e hb)]; exact s.bh b u e
  · rw [upd_ne (fun z => by rw [z, h] at e; cases e)]; exact s.out b u e n z
  · by_cases q : b = a
    · rw [q, upd_same]; exact fun z => nomatch z
    · rw [upd_ne q]; exact s.th b e
  · refine (upd_ne fun z => ?_).trans e
    rcases m with m | m
    · exact p.nmu h (by rw [← z]; exact m)
    · obtain ⟨u', h1, h2⟩ := hk
      rw [z, h1] at e; cases e; exact h2 m
  · by_cases z : b = a
    · rw [z, upd_same] at e; exact absurd (Option.some.inj e) (nf ob u)
    · rw [upd_ne z] at e; exact e
theorem nk_lst {xs : List V} : ¬ Kp (.lst xs) := fun m => by rcases m with ⟨φ, m⟩ | ⟨ob, u, m⟩ <;> cases m
theorem nk_ins {C dx : Addr} {fs : List (Str × V)} : ¬ Kp (.ins C dx fs) := fun m => by rcases m with ⟨φ, m⟩ | ⟨ob, u, m⟩ <;> cases m
theorem wipe_in {σ : L2.St} {i : Nat} : ∀ {vs : List Nat}, i ∈ vs → (wipe σ vs)[i]? = if i < σ.length then some none else none
  | v :: vs, h => by
    unfold wipe
    by_cases q : v = i
    · subst q
      by_cases hl : v < σ.length
      · rw [if_pos hl, List.getElem?_set_self (by rw [wipe_length]; exact hl)]
      · rw [if_neg hl, List.getElem?_eq_none (by rw [List.length_set, wipe_length]; omega)]
    · rw [List.getElem?_set_ne q]
      exact wipe_in (by
        rcases List.mem_cons.mp h with z | z
        · exact absurd z.symm q
        · exact z)
theorem But.wipe {S vs : List Nat} {σ σ' : L2.St} (b : But S (wipe σ vs) σ') (h : ∀ i ∈ S, i ∈ vs) : wipe σ' vs = wipe σ vs := by
  have hl : σ'.length = σ.length := b.1.trans (wipe_length σ vs)
  apply List.ext_getElem?
  intro i
  by_cases q : i ∈ vs
  · rw [wipe_in q, wipe_in q, hl]
  · rw [wipe_out q, b.2 i fun z => q (h i z)]
/-- a view as slots -/
def toSl (ρ : View) : Sl := ρ.map fun o => o.map Slot.val
def wipeV (ρ : View) : List Nat → View
  | [] => ρ
  | v :: vs => (wipeV ρ vs).set v none
theorem wipeV_length (ρ : View) : ∀ vs : List Nat, (wipeV ρ vs).length = ρ.length
  | [] => rfl
  | v :: vs => by unfold wipeV; rw [List.length_set, wipeV_length ρ vs]
theorem wipeV_some {ρ : View} {i : Nat} {d : D} : ∀ {vs : List Nat}, (wipeV ρ vs)[i]? = some (some d) → ρ[i]? = some (some d) ∧ i ∉ vs
  | [], h => ⟨h, by simp⟩
  | v :: vs, h => by
    unfold wipeV at h
    rcases set_get h with ⟨_, _, e⟩ | ⟨n, h⟩
    · cases e
    · obtain ⟨h1, h2⟩ := wipeV_some h
      exact ⟨h1, by simp only [List.mem_cons, not_or]; exact ⟨n, h2⟩⟩
theorem RepV.wipe {K : PySem.W.Frag} {c : Cn K} {B : Hp} {σ : L2.St} {ρ : View} (r : RepV c B σ ρ) (vs : List Nat) : RepV c B (wipe σ vs) (wipeV ρ vs) := by
  refine ⟨by rw [wipeV_length, wipe_length]; exact r.1, fun i d h => ?_⟩
  obtain ⟨h1, h2⟩ := wipeV_some h
  rw [wipe_out h2]
  exact r.2 i d h1
theorem RepV.rep {K : PySem.W.Frag} {c : Cn K} {B H : Hp} {σ : L2.St} {ρ : View} (r : RepV c B σ ρ) (p : Pre c B H) : Rep c H B B H σ (toSl ρ) := by
  have g : ∀ (i : Nat) (s : Slot), (toSl ρ)[i]? = some (some s) → ∃ d, s = .val d ∧ ρ[i]? = some (some d) := fun i s h => by
    unfold toSl at h
    rw [List.getElem?_map] at h
    cases q : ρ[i]? with
    | none => rw [q] at h; cases h
    | some o =>
      rw [q] at h
      cases o with
      | none => cases h
      | some d => cases h; exact ⟨d, rfl, rfl⟩
  refine ⟨p, Step.refl p, by unfold toSl; rw [List.length_map]; exact r.1, fun i s h => ?_, fun i j a ds es h => ?_⟩
  · obtain ⟨d, rfl, h1⟩ := g i s h
    exact r.2 i d h1
  · obtain ⟨d, e, _⟩ := g i _ h
    cases e
abbrev W0 : WX := fun _ _ _ _ => False
theorem XK0 {K : PySem.W.Frag} {c : Cn K} {B H : Hp} : ∀ x : Exn, False → XK c W0 B H x := fun _ h => h.elim
structure ETs (X : Cx) (c : Cn X.K) (W : WX) (ifs : List Expr) (f : DB) : Prop where
  mn : Mn f
  pt : PTs X ifs (tT c W f)
def bYes : DB := fun _ k _ => k true
theorem ets_nil {X : Cx} {c : Cn X.K} {W : WX} : ETs X c W [] bYes :=
  ⟨fun ρ k k' E E' hk hE q => hk _ q, ⟨fun pins s σ H Q I h => pts_nil.run pins s σ H Q I (let ⟨B, ρ, p, rp, q⟩ := h; q B H (Step.refl p))⟩⟩
theorem ets_one {X : Cx} {c : Cn X.K} {W : WX} {e : Expr} {f : DB} (h : EB X c W e f) : ETs X c W [e] f := ⟨h.mn, pts_one h.pt⟩
/-- [e for t in .. if ..] -/
def compD (g : DG) (ft : DB) (fe : DV) (ρ : View) : List D → List D → (List D → Prop) → Prop
  | [], acc, k => k acc
  | d :: ds, acc, k => g d (toSl ρ) fun ρ' => ft (viewN ρ') (fun b => (b = true → fe (viewN ρ') (fun y => acc.length < sizeLine ∧ compD g ft fe ρ ds (acc ++ [y]) k) fun _ => False) ∧ (b = false → compD g ft fe ρ ds acc k)) fun _ => False
def rComp (fi : DL) (g : DG) (ft : DB) (fe : DV) (vs : List Nat) : DR := fun ρ k E => fi ρ (fun ds => compD g ft fe (wipeV ρ vs) ds [] fun acc => k (.new acc)) E
theorem compD_mn {g : DG} {ft : DB} {fe : DV} {ρ : View} (hg : ∀ d ρ (k k' : Sl → Prop), (∀ ρ, k ρ → k' ρ) → g d ρ k → g d ρ k') (ht : Mn ft) (he : Mn fe) : ∀ (ds acc : List D) (k k' : List D → Prop), (∀ a, k a → k' a) → compD g ft fe ρ ds acc k → compD g ft fe ρ ds acc k'
  | [], acc, k, k', hk, q => hk _ q
  | d :: ds, acc, k, k', hk, q => hg d _ _ _ (fun ρ' q => ht _ _ _ _ _ (fun b ⟨q1, q2⟩ => ⟨fun z => he _ _ _ _ _ (fun y ⟨q3, q4⟩ => ⟨q3, compD_mn hg ht he ds _ k k' hk q4⟩) (fun _ h => h) (q1 z), fun z => compD_mn hg ht he ds _ k k' hk (q2 z)⟩) (fun _ h => h) q) q
section
variable {X : Cx} {c : Cn X.K} {W : WX} {e a b tg : Expr} {es : List Expr} {pos p apos cpos : Pos} {f g : DV} {j k : Nat}
theorem comp_ok {S vs : List Nat} {fi : DL} {gt : DG} {ft : DB} {fe : DV} {iter : Expr} (hi : EI X c W tg iter fi) (hS : ∀ i ∈ S, i ∈ vs) (hg : ∀ d ρ (k k' : Sl → Prop), (∀ ρ, k ρ → k' ρ) → gt d ρ k → gt d ρ k') (ht : Mn ft) (he : Mn fe) :
    Mn (rComp fi gt ft fe vs) ∧ ∀ σ H Q, tR c W (rComp fi gt ft fe vs) σ H Q → tLc (tI c W fi) (tG c S gt) (tT c W0 ft) (tV c W0 fe) vs σ H Q := by
  refine ⟨fun ρ k k' E E' hk hE q => hi.mn _ _ _ E E' (fun ds q => compD_mn hg ht he ds [] _ _ (fun a => hk _) q) hE q, ?_⟩
  rintro σ H Q ⟨B, ρ, p, rp, q⟩
  refine ⟨B, ρ, p, rp, hi.mn _ _ _ _ _ (fun ds hd J B1 H1 s1 wk Dl hD => ?_) (fun _ z => z) q⟩
  have p1 := s1.pre
  refine ⟨fun i m Hc => m = ds.length - i ∧ i ≤ ds.length ∧ ∃ Bc acc av, Step c B1 H1 Bc Hc ∧ Bc Dl = none ∧ Hc Dl = some (.lst av) ∧ IsL c Bc av acc ∧ compD gt ft fe (wipeV ρ vs) (ds.drop i) acc (fun acc => ∀ v B' H', Step c B H B' H' → RvOk c H B' H' v (.new acc) → Q v H'),
    ⟨ds.length, by simp, Nat.zero_le _, B1, [], [], Step.lay p1 hD _, p1.bnone hD, upd_same, .nil, hd⟩, ?_⟩
  rintro i m Hc ⟨rfl, hle, Bc, acc, av, sc, hb, ha, hl, q⟩
  have sb : Same B1 Bc := sc.b
  obtain ⟨w1, w2⟩ := wk Bc Hc i sb sc.pre
  cases hdr : ds.drop i with
  | nil =>
    rw [hdr] at q
    exact .inl ⟨w2 (Nat.le_antisymm hle (by simpa using hdr)), q _ Bc Hc (s1.trans sc) (rv_new ha hl hb (fresh0 s1 hD))⟩
  | cons d rest =>
    rw [hdr] at q
    obtain ⟨h1, h2⟩ := drop_at hdr
    obtain ⟨go, yl⟩ := w1 d h1
    have hlt : i < ds.length := (List.getElem?_eq_some_iff.mp h1).1
    refine .inr ⟨go, fun Hn => ∃ Bn acc an, Step c B1 H1 Bn Hn ∧ Bn Dl = none ∧ Hn Dl = some (.lst an) ∧ IsL c Bn an acc ∧ compD gt ft fe (wipeV ρ vs) rest acc (fun acc => ∀ v B' H', Step c B H B' H' → RvOk c H B' H' v (.new acc) → Q v H'),
      fun Hn ⟨Bn, acc, an, k1, k2, k3, k4, k5⟩ => ⟨ds.length - (i + 1), by omega, rfl, hlt, Bn, acc, an, k1, k2, k3, k4, by rw [h2]; exact k5⟩, fun x H' y => ?_⟩
    obtain ⟨B2, st, ix⟩ := yl x H' y
    have nD : ∀ {Ba Ha : Hp}, Step c Bc Hc Ba Ha → Ba Dl = none ∧ Ha Dl = some (.lst av) := fun {Ba Ha} s => by
      have hne : Hc Dl ≠ none := by rw [ha]; exact fun z => nomatch z
      exact ⟨(s.dom Dl hne).trans hb, s.out Dl _ ha (p1.nmu hD) fun _ z => nomatch z⟩
    have sm2 : Same B B2 := fun a o e => st.b a o (sb a o (s1.b a o e))
    have rw2 := (rp.mono sm2).wipe vs
    refine ⟨H', B2, B2, _, d, rw2.rep st.pre, ix, hg _ _ _ _ (fun ρ' q σ' r' bt => ⟨bt.wipe hS, ?_⟩) q⟩
    refine ⟨B2, _, st.pre, r'.viewN, ht _ _ _ _ _ (fun b qb B3 H3 s3 => ?_) XK0 q⟩
    have st3 := st.trans s3
    cases b with
    | true =>
      refine iteT ?_
      refine ⟨B3, _, s3.pre, r'.viewN.mono s3.b, he _ _ _ _ _ (fun y qy v B4 H4 s4 iv => ?_) XK0 (qb.1 rfl)⟩
      have st4 := st3.trans s4
      obtain ⟨e1, e2⟩ := nD st4
      refine ⟨av, e2, by rw [hl.length]; exact qy.1, B4, acc ++ [y], av ++ [v], (sc.trans st4).put p1 hD e1 ⟨_, e2, nk_lst⟩, e1, upd_same, (hl.mono st4.b).append (.cons iv .nil), qy.2⟩
    | false =>
      refine iteF ?_
      obtain ⟨e1, e2⟩ := nD st3
      exact ⟨B3, acc, av, sc.trans st3, e1, e2, hl.mono st3.b, qb.2 rfl⟩
abbrev BX (X : Cx) (scope : Scope) (s : Shared) (H : Hp) (C : Addr) (cl : List (Str × Addr)) (fp : List Addr) : Cx := X.blk s H scope (compEnvC scope cl C X.env) fp
theorem Fm.blk (m : Fm X W j) {scope : Scope} {s : Shared} {H : Hp} {C : Addr} {cl : List (Str × Addr)} {fp : List Addr} : Fm (BX X scope s H C cl fp) W0 j := ⟨m.nd, m.calm, m.room, m.gd, LamX.takes0, .never⟩
theorem er_comp {S : List Nat} {fi : DL} {gt : DG} {ft : DB} {fe : DV} {iter elt : Expr} {ifs : List Expr} {scope : Scope} {own : List (Str × Nat)} (m : Fm X W j) (hi : EI X c W tg iter fi) (ok : blkC X.N X.env.scope scope own = true)
    (hg : ∀ s H C cl fp, GT (BX X scope s H C cl fp) c S tg gt) (ht : ∀ s H C cl fp, ETs (BX X scope s H C cl fp) c W0 ifs ft) (he : ∀ s H C cl fp, EV (BX X scope s H C cl fp) c W0 elt fe)
    (hS : ∀ i ∈ S, i ∈ own.map (·.2) := by decide) (hs : ∀ x, foldedSetIterable iter X.env x = pure x := by intro _; rfl) (s0 : Shared := by assumption) : ER X c W (.ListComp elt [⟨tg, iter, ifs, 0⟩] scope pos) (rComp fi gt ft fe (own.map (·.2))) := by
  have h := comp_ok (vs := own.map (·.2)) hi hS (hg s0 (fun _ => none) 0 [] []).mn (ht s0 (fun _ => none) 0 [] []).mn (he s0 (fun _ => none) 0 [] []).mn
  exact ⟨h.1, wkE (pe_lc m.calm m.nd hi.pi (blkOk_by ok) (fun s H C cl fp => (hg s H C cl fp).pg) (fun s H C cl fp => (ht s H C cl fp).pt) (fun s H C cl fp => (he s H C cl fp).pe) hs) h.2⟩
/-- y = [e for ..] on one line -/
theorem ss_comp {S : List Nat} {i : Nat} {y : Str} {py spos : Pos} {fs : DS} {fi : DL} {gt : DG} {ft : DB} {fe : DV} {iter elt : Expr} {ifs : List Expr} {scope : Scope} {own : List (Str × Nat)} (m : Fm X W j) (hi : EI X c W tg iter fi) (ok : blkC X.N X.env.scope scope own = true)
    (hg : ∀ s H C cl fp, GT (BX X scope s H C cl fp) c S tg gt) (ht : ∀ s H C cl fp, ETs (BX X scope s H C cl fp) c W0 ifs ft) (he : ∀ s H C cl fp, EV (BX X scope s H C cl fp) c W0 elt fe)
    (hok : ∀ {e : Expr}, ER X c W e (rComp fi gt ft fe (own.map (·.2))) → MnS fs ∧ ∀ D σ H, tS c W fs D σ H → tAsg (tR c W (rComp fi gt ft fe (own.map (·.2)))) (gName i) D σ H)
    (hy : X.N[i]? = some y := by rfl) (hyl : X.env.scope.names.lookup y = some .local := by rfl) (hk : X.env.scope.kind = .function := by rfl) (hl : (py.line == pos.line) = true := by rfl) (hsw : (scope.names.any fun (n, k) => n == y && (k == .local || k == .cell)) = false := by rfl)
    (hS : ∀ i ∈ S, i ∈ own.map (·.2) := by decide) (hs : ∀ x, foldedSetIterable iter X.env x = pure x := by intro _; rfl) (s0 : Shared := by assumption) : SS X c W (.Assign [.Name y py] (.ListComp elt [⟨tg, iter, ifs, 0⟩] scope pos) spos) fs := by
  have h := comp_ok (vs := own.map (·.2)) hi hS (hg s0 (fun _ => none) 0 [] []).mn (ht s0 (fun _ => none) 0 [] []).mn (he s0 (fun _ => none) 0 [] []).mn
  have h2 := hok (er_comp (pos := pos) m hi ok hg ht he hS hs s0)
  refine ⟨h2.1, wkS (ps_setLc (wi := tI c W fi) (g := tG c S gt) (tt := tT c W0 ft) (te := tV c W0 fe) m.calm m.nd hy hyl (sw_true hk hyl hl hsw) hi.pi (blkOk_by ok) (fun s H C cl fp => (hg s H C cl fp).pg) (fun s H C cl fp => (ht s H C cl fp).pt) (fun s H C cl fp => (he s H C cl fp).pe) hs) fun D σ H q => ?_⟩
  exact h.2 σ H _ (h2.2 D σ H q)
end
end Dv

set_option Elab.async false
set_option linter.all false
set_option maxRecDepth 100000
set_option maxHeartbeats 2000000
namespace Dv
open PySem PySem.Spec PyProof.Rows L2
/-! ### sequences told by a flag: tuple (true) or list -/
def SqK (t : Bool) (K : PySem.W.Frag) (H : Hp) (a : Addr) (xs : List V) : Prop := if t = true then SqT K H a xs else SqL K H a xs
def SeqK (t : Bool) (h : Heap) (a : Addr) (its : Array Value) : Prop := if t = true then h.IsTuple a its else h.IsList a its
def IterK (t : Bool) (h : Heap) (it a : Addr) (i : Nat) : Prop := if t = true then h.IsTupleIter it a i else h.IsListIter it a i
def itO (t : Bool) (a : Addr) : Obj := if t = true then { cls := .type "tuple_iterator", data := .fields #[.ref a, .int 0 0] } else { cls := .type "list_iterator", data := .fields #[.ref a, .int 0 0] }
theorem drawsK {prog : Program} {w : World} {A : Around} (t : Bool) (hh : A.handled = none) (it a : Addr) (hne : a ≠ it) (items : Array Value) :
    Draws prog w A it [it, a] items.size (fun i v => items[i]? = some v) (fun i h => IterK t h it a i ∧ SeqK t h a items) := by
  cases t with
  | true => exact Draws.tuple hh it a hne items
  | false => exact Draws.list hh it a hne items
theorem beginsK (t : Bool) (a : Addr) (items : Array Value) : Begins (.ref a) (itO t a) (fun h => SeqK t h a items) := by
  cases t with
  | true => exact begins_tuple a items
  | false => exact begins_list a items
section
variable {X : Cx} {pins : List (Addr × Obj)} {σ : L2.St} {H : Hp} {s : Shared}
theorem seqK {t : Bool} {a : Addr} {xs : List V} (I : Inv X pins σ H s) (h : SqK t X.K H a xs) : ∃ its, Vals xs its ∧ SeqK t s.heap a its.toArray := by
  cases t with
  | true => obtain ⟨its, rv, p, _⟩ := I.tuple h; exact ⟨its, rv, p⟩
  | false => obtain ⟨its, rv, p, _⟩ := I.list h; exact ⟨its, rv, p.isList⟩
theorem SeqK.lt {t : Bool} {h : Heap} {a : Addr} {its : Array Value} (x : SeqK t h a its) : a < h.objs.size := by
  cases t with
  | true => obtain ⟨o, e, _⟩ := x; exact Heap.lt_size e
  | false => obtain ⟨o, e, _⟩ := x; exact Heap.lt_size e
theorem IterK.ob {t : Bool} {h : Heap} {it a : Addr} {i : Nat} (x : IterK t h it a i) : ∃ o, h.get? it = some o ∧ ∀ v, o.data ≠ .cell v := by
  cases t with
  | true => obtain ⟨o, e, _, d⟩ := x; exact ⟨o, e, fun v q => by rw [d] at q; cases q⟩
  | false => obtain ⟨o, e, _, d⟩ := x; exact ⟨o, e, fun v q => by rw [d] at q; cases q⟩
theorem IterK.at {t : Bool} {h h' : Heap} {it a : Addr} {i : Nat} (x : IterK t h it a i) (k : ∀ o, h.get? it = some o → h'.get? it = some o) : IterK t h' it a i := by
  cases t with
  | true => exact Heap.IsTupleIter.at x k
  | false => exact Heap.IsListIter.at x k
theorem iter0 {t : Bool} {h : Heap} {it a : Addr} (x : h.get? it = some (itO t a)) : IterK t h it a 0 := by
  cases t with
  | true => exact ⟨_, x, rfl, rfl⟩
  | false => exact ⟨_, x, rfl, rfl⟩
theorem sqK_inj {t : Bool} {a : Addr} {xs ys : List V} (I : Inv X pins σ H s) (h : SqK t X.K H a xs) (h' : SqK t X.K H a ys) : xs = ys := by
  cases t with
  | true => exact I.tuple_inj h h'
  | false => exact I.list_inj h h'
theorem newTup (I : Inv X pins σ H s) {h' : Heap} {T : Addr} {vs : List V} {us : List Value} (hT : h'.IsTuple T us.toArray) (r : Vals vs us) (hz : vs.length ≤ 8) : ObjOk X.prog X.w (upd H T (.tup vs)) h' T (.tup vs) := by
  obtain ⟨o, e, hc, n, hd⟩ := hT
  refine ⟨Nat.le_trans hz (by decide), us, r, o, e, hc, n, hd⟩
end
/-! ### zip of two -/
def ItZ (t1 t2 : Bool) (K : PySem.W.Frag) (a b : Addr) : It :=
  ⟨fun i H => ∃ (xs ys : List V) (x y : V), SqK t1 K H a xs ∧ SqK t2 K H b ys ∧ xs[i]? = some x ∧ ys[i]? = some y,
    fun i H v H' => ∃ T x y, v = .ref T ∧ H T = none ∧ H' = upd H T (.tup [x, y]) ∧ (∀ xs, SqK t1 K H a xs → xs[i]? = some x) ∧ ∀ ys, SqK t2 K H b ys → ys[i]? = some y,
    fun i H => ∃ xs ys : List V, SqK t1 K H a xs ∧ SqK t2 K H b ys ∧ i = min xs.length ys.length⟩
theorem turn_Z {P : Program} {w : World} {K : PySem.W.Frag} {elts : List Expr} {kk : Nat} {tpos : Pos} {t1 t2 : Bool} {a b z TI TO i1 i2 : Addr} (D : ZipSep2 z TI TO i1 i2 [i1, a] [i2, b]) (h1 : a ≠ i1) (h2 : b ≠ i2) :
    Turn P w K (.Tuple elts kk tpos) (ItZ t1 t2 K a b) [z, TI, TO, i1, i2] z (fun i h => IsZip h z TI TO .none ∧ IsTupOf2 h TI (.ref i1) (.ref i2) ∧ (∃ x y, IsTupOf2 h TO x y) ∧ IterK t1 h i1 a i ∧ IterK t2 h i2 b i) where
  mem := by simp
  obj := fun i h st c hc => by
    obtain ⟨hz, hTI, ⟨x, y, hTO⟩, q1, q2⟩ := st
    have e' : c = z ∨ c = TI ∨ c = TO ∨ c = i1 ∨ c = i2 := by simpa using hc
    rcases e' with q | q | q | q | q
    · rw [q]; exact ⟨_, hz, fun v q => nomatch q⟩
    · rw [q]; exact ⟨_, hTI, fun v q => nomatch q⟩
    · rw [q]; exact ⟨_, hTO, fun v q => nomatch q⟩
    · rw [q]; exact q1.ob
    · rw [q]; exact q2.ob
  keep := fun i h h' st k => by
    obtain ⟨hz, hTI, ⟨x, y, hTO⟩, q1, q2⟩ := st
    exact ⟨k z (by simp) _ hz, k TI (by simp) _ hTI, ⟨x, y, k TO (by simp) _ hTO⟩, q1.at fun o q => k i1 (by simp) o q, q2.at fun o q => k i2 (by simp) o q⟩
  item := by
    intro X hP hw hK hc i pins s σ H E I hf st hg
    subst hP hw hK
    obtain ⟨hz, hTI, hTO, q1, q2⟩ := st
    obtain ⟨xs, ys, x, y, hqx, hqy, hx, hy⟩ := hg
    obtain ⟨its, rv, p⟩ := seqK I hqx
    obtain ⟨its2, rv2, p2⟩ := seqK I hqy
    have lx := (List.getElem?_eq_some_iff.mp hx).1
    have ly := (List.getElem?_eq_some_iff.mp hy).1
    have l1 := rv.length
    have l2 := rv2.length
    have hh : X.A.in1.handled = none := I.ok.hd hc
    refine wpAny_mono ((GoesN.zip2 (elts := elts) (x1 := kk) (pos := tpos) D (drawsK t1 hh i1 a h1 its.toArray) (drawsK t2 hh i2 b h2 its2.toArray)).goes i s _ (by simp; omega) ⟨hz, hTI, hTO, ⟨q1, p⟩, ⟨q2, p2⟩⟩
      (Q := fun u s2 => ∃ x H', Inv X pins σ H' s2 ∧ RelV x u ∧ (ItZ t1 t2 X.K a b).yld i H x H' ∧ (IsZip s2.heap z TI TO .none ∧ IsTupOf2 s2.heap TI (.ref i1) (.ref i2) ∧ (∃ x y, IsTupOf2 s2.heap TO x y) ∧ IterK t1 s2.heap i1 a (i + 1) ∧ IterK t2 s2.heap i2 b (i + 1)) ∧ ∀ b ∈ [z, TI, TO, i1, i2], H' b = none) fun v h' tk hY st' hk htk => ?_) (fun _ _ h => h) fun _ _ h => h
    obtain ⟨T, u1, u2, rfl, hT, e1, e2, hTu⟩ := hY
    obtain ⟨s1, s2, s3, ⟨s4, _⟩, ⟨s5, _⟩⟩ := st'
    obtain ⟨w1, e3, r1⟩ := rv.get hx
    obtain ⟨w2, e4, r2⟩ := rv2.get hy
    have ew1 : w1 = u1 := by
      have : its.toArray[i]? = some w1 := by simpa using e3
      rw [this] at e1; exact Option.some.inj e1
    have ew2 : w2 = u2 := by
      have : its2.toArray[i]? = some w2 := by simpa using e4
      rw [this] at e2; exact Option.some.inj e2
    subst ew1; subst ew2
    have hsub : ∀ c ∈ [z, TO, i1, i2], c ∈ [z, TI, TO, i1, i2] := fun c hc => by
      simp at hc ⊢; rcases hc with q | q | q | q <;> simp [q]
    refine ⟨.ref T, _, I.turnedNew (t' := tk) hk (fun c hc => hf c (hsub c hc)) hT (newTup I (us := [w1, w2]) (vs := [x, y]) hTu (.cons r1 (.cons r2 .nil)) (by simp)), rfl, ⟨T, x, y, rfl, I.hok.fresh hT, rfl, fun l hl => by rw [sqK_inj I hl hqx]; exact hx, fun l hl => by rw [sqK_inj I hl hqy]; exact hy⟩, ⟨s1, s2, s3, s4, s5⟩, fun c hcm => ?_⟩
    have hlt : c < s.heap.objs.size := by
      have e' : c = z ∨ c = TI ∨ c = TO ∨ c = i1 ∨ c = i2 := by simpa using hcm
      rcases e' with q | q | q | q | q
      · rw [q]; exact Heap.lt_size hz
      · rw [q]; exact Heap.lt_size hTI
      · rw [q]; obtain ⟨_, _, g⟩ := hTO; exact Heap.lt_size g
      · rw [q]; obtain ⟨_, e1, _⟩ := q1.ob; exact Heap.lt_size e1
      · rw [q]; obtain ⟨_, e2, _⟩ := q2.ob; exact Heap.lt_size e2
    rw [upd_ne (Nat.ne_of_lt (Nat.lt_of_lt_of_le hlt hT))]
    exact (hf c hcm).1
  done := by
    intro X hP hw hK hc i pins s σ H E I hf st hg
    subst hP hw hK
    obtain ⟨hz, hTI, hTO, q1, q2⟩ := st
    obtain ⟨xs, ys, hqx, hqy, hend⟩ := hg
    obtain ⟨its, rv, p⟩ := seqK I hqx
    obtain ⟨its2, rv2, p2⟩ := seqK I hqy
    have l1 := rv.length
    have l2 := rv2.length
    have hh : X.A.in1.handled = none := I.ok.hd hc
    have hmin : i = min its.toArray.size its2.toArray.size := by simp; omega
    have hsub : ∀ c ∈ [z, TO, i1, i2], c ∈ [z, TI, TO, i1, i2] := fun c hc => by
      simp at hc ⊢; rcases hc with q | q | q | q <;> simp [q]
    refine (GoesN.zip2 (elts := elts) (x1 := kk) (pos := tpos) D (drawsK t1 hh i1 a h1 its.toArray) (drawsK t2 hh i2 b h2 its2.toArray)).stops s _ _ ⟨hz, hTI, hTO, ⟨hmin ▸ q1, p⟩, ⟨hmin ▸ q2, p2⟩⟩ fun h' tk hk htk => ?_
    exact I.turnedL (t' := tk) hk fun c hc => hf c (hsub c hc)
  self := fun A i s Q E st h => wpAny_pyIter_zip st.1 h
/-- zip(a, b) begins -/
theorem zipK_begins {prog : Program} {w : World} {A : Around} {E : Value → Shared → Prop} {s : Shared} {t1 t2 : Bool} {a b : Addr} {its its2 : Array Value} {Q : Value → Shared → Prop} (h1 : SeqK t1 s.heap a its) (h2 : SeqK t2 s.heap b its2)
    (h : ∀ h', (IsZip h' (s.heap.objs.size + 4) (s.heap.objs.size + 2) (s.heap.objs.size + 3) .none ∧ IsTupOf2 h' (s.heap.objs.size + 2) (.ref s.heap.objs.size) (.ref (s.heap.objs.size + 1)) ∧ (∃ x y, IsTupOf2 h' (s.heap.objs.size + 3) x y) ∧ IterK t1 h' s.heap.objs.size a 0 ∧ IterK t2 h' (s.heap.objs.size + 1) b 0) →
      (∀ c o, s.heap.get? c = some o → h'.get? c = some o) → Q (.ref (s.heap.objs.size + 4)) { s with heap := h' }) :
    wpAny (model prog w) A (call (.type "zip") [.ref a, .ref b]) Q E s :=
  zip_begins2 (beginsK t1 a its) (beginsK t2 b its2) h1 h2 fun h' g1 g2 g3 g4 g5 g6 k => h h' ⟨g1, g2, ⟨_, _, g3⟩, iter0 g4, iter0 g5⟩ k
def iZK (K : PySem.W.Frag) (ta : TA) : TI := fun σ H R => ta σ H fun vs H1 => ∃ t1 t2 a b xs ys, vs = [.ref a, .ref b] ∧ SqK t1 K H1 a xs ∧ SqK t2 K H1 b ys ∧ R (ItZ t1 t2 K a b) H1
theorem pi_zipK {X : Cx} {e e2 : Expr} {ta : TA} {p pos tpos : Pos} {elts : List Expr} {kk : Nat} (hg : Gl X "zip") (hm : X.mg "zip" = none) (ha : PA X [e, e2] ta)
    (hs : starEach [e, e2] X.env = (false, eval e X.env) :: starEach [e2] X.env := by rfl) (hpl : (backTo pos (starEach [e2] X.env)).any (·.1) = false := by rfl) :
    PI X (.Tuple elts kk tpos) (.Call (.Name "zip" p) [e, e2] [] pos) (iZK X.K ta) := by
  refine ⟨fun pins s σ H R I h => ?_⟩
  refine Call_ (ld_blt I hg hm PyProof.Rows.boot_zip (PyProof.Rows.callWith_type1 (thn (ha.run pos pins s σ H _ I h) fun us s1 ⟨vs, H1, I1, r1, q1⟩ => ?_) hs hpl))
  obtain ⟨t1, t2, a, b, xs, ys, ex, hqx, hqy, q⟩ := q1
  subst ex
  cases r1 with
  | cons r rr =>
    cases rr with
    | cons r' rr =>
      cases rr
      cases r
      cases r'
      obtain ⟨its, rv, p1⟩ := seqK I1 hqx
      obtain ⟨its2, rv2, p2⟩ := seqK I1 hqy
      refine zipK_begins p1 p2 fun h' st hk => wpAny_pyIter_zip st.1 ?_
      have I2 : Inv X pins σ H1 { s1 with heap := h' } := I1.kept (t' := s1.toks) hk
      refine ⟨s1.heap.objs.size + 4, [s1.heap.objs.size + 4, s1.heap.objs.size + 2, s1.heap.objs.size + 3, s1.heap.objs.size, s1.heap.objs.size + 1], _, _, H1, rfl, I2, turn_Z (zip_sep2 (fp1 := [a]) (fp2 := [b]) (fun c hc => by rw [List.mem_singleton.mp hc]; exact p1.lt) fun c hc => by rw [List.mem_singleton.mp hc]; exact p2.lt) (Nat.ne_of_lt p1.lt) (Nat.ne_of_lt (Nat.lt_succ_of_lt p2.lt)), st, fun c hcm => ?_, q⟩
      have e' : c = s1.heap.objs.size + 4 ∨ c = s1.heap.objs.size + 2 ∨ c = s1.heap.objs.size + 3 ∨ c = s1.heap.objs.size ∨ c = s1.heap.objs.size + 1 := by simpa using hcm
      have hle : s1.heap.objs.size ≤ c := by
        rcases e' with z | z | z | z | z <;> rw [z] <;> first | exact Nat.le_refl _ | exact Nat.le_add_right _ _
      exact I1.fpOk hle (I1.hok.fresh hle)
/-! ### enumerate -/
def ItE (t : Bool) (K : PySem.W.Frag) (a : Addr) : It :=
  ⟨fun i H => ∃ (xs : List V) (x : V), SqK t K H a xs ∧ xs[i]? = some x, fun i H v H' => ∃ T x, v = .ref T ∧ H T = none ∧ H' = upd H T (.tup [.int (i : Nat), x]) ∧ ∀ xs, SqK t K H a xs → xs[i]? = some x, fun i H => ∃ xs : List V, SqK t K H a xs ∧ i = xs.length⟩
theorem turn_E {P : Program} {w : World} {K : PySem.W.Frag} {elts : List Expr} {kk : Nat} {tpos : Pos} {t : Bool} {a e it : Addr} (hei : e ≠ it) (hea : e ≠ a) (hai : a ≠ it) :
    Turn P w K (.Tuple elts kk tpos) (ItE t K a) [e, it] e (fun i h => (∃ old, IsEnum h e it (0 + (i : Int)) old) ∧ IterK t h it a i) where
  mem := by simp
  obj := fun i h st b hb => by
    obtain ⟨⟨old, he⟩, q⟩ := st
    have e' : b = e ∨ b = it := by simpa using hb
    rcases e' with z | z
    · rw [z]; exact ⟨_, he, fun v q => nomatch q⟩
    · rw [z]; exact q.ob
  keep := fun i h h' st k => let ⟨⟨old, he⟩, hi⟩ := st; ⟨⟨old, k e (by simp) _ he⟩, hi.at fun o q => k it (by simp) o q⟩
  item := by
    intro X hP hw hK hc i pins s σ H E I hf st hg
    subst hP hw hK
    obtain ⟨he, q1⟩ := st
    obtain ⟨xs, x, hqx, hx⟩ := hg
    obtain ⟨its, rv, p⟩ := seqK I hqx
    have lx := (List.getElem?_eq_some_iff.mp hx).1
    have l1 := rv.length
    have hh : X.A.in1.handled = none := I.ok.hd hc
    refine wpAny_mono ((GoesN.enumFrom (elts := elts) (x1 := kk) (pos := tpos) 0 (drawsK t hh it a hai its.toArray) e hei (by simp [hei, hea]) (by simp)).goes i s _ (by simp; omega) ⟨he, q1, p⟩
      (Q := fun u s2 => ∃ x H', Inv X pins σ H' s2 ∧ RelV x u ∧ (ItE t X.K a).yld i H x H' ∧ ((∃ old, IsEnum s2.heap e it (0 + ((i + 1 : Nat) : Int)) old) ∧ IterK t s2.heap it a (i + 1)) ∧ ∀ b ∈ [e, it], H' b = none) fun v h' tk hY st' hk htk => ?_) (fun _ _ h => h) fun _ _ h => h
    obtain ⟨T, tt, u1, rfl, hT, e1, hTu⟩ := hY
    obtain ⟨s1, s4, _⟩ := st'
    obtain ⟨w1, e3, r1⟩ := rv.get hx
    have ew1 : w1 = u1 := by
      have : its.toArray[i]? = some w1 := by simpa using e3
      rw [this] at e1; exact Option.some.inj e1
    subst ew1
    rw [Int.zero_add] at hTu
    refine ⟨.ref T, _, I.turnedNew (t' := tk) hk hf hT (newTup I (us := [.int (i : Nat) tt, w1]) (vs := [.int (i : Nat), x]) hTu (.cons ⟨_, rfl⟩ (.cons r1 .nil)) (by simp)), rfl, ⟨T, x, rfl, I.hok.fresh hT, rfl, fun l hl => by rw [sqK_inj I hl hqx]; exact hx⟩, ⟨s1, s4⟩, fun c hcm => ?_⟩
    have hlt : c < s.heap.objs.size := by
      have e' : c = e ∨ c = it := by simpa using hcm
      rcases e' with q | q
      · rw [q]; obtain ⟨_, g⟩ := he; exact Heap.lt_size g
      · rw [q]; obtain ⟨_, e1, _⟩ := q1.ob; exact Heap.lt_size e1
    rw [upd_ne (Nat.ne_of_lt (Nat.lt_of_lt_of_le hlt hT))]
    exact (hf c hcm).1
  done := by
    intro X hP hw hK hc i pins s σ H E I hf st hg
    subst hP hw hK
    obtain ⟨he, q1⟩ := st
    obtain ⟨xs, hqx, hend⟩ := hg
    obtain ⟨its, rv, p⟩ := seqK I hqx
    have l1 := rv.length
    have hh : X.A.in1.handled = none := I.ok.hd hc
    have hmin : i = its.toArray.size := by simp; omega
    refine (GoesN.enumFrom (elts := elts) (x1 := kk) (pos := tpos) 0 (drawsK t hh it a hai its.toArray) e hei (by simp [hei, hea]) (by simp)).stops s _ _ ⟨hmin ▸ he, hmin ▸ q1, p⟩ fun h' tk hk htk => ?_
    exact I.turnedL (t' := tk) hk hf
  self := fun A i s Q E st h => let ⟨⟨_, he⟩, _⟩ := st; wpAny_pyIter_enum he h
/-- enumerate(v) of one argument -/
theorem meets_enum1 {v : Value} {o : Obj} {H : Heap → Prop} (B : Begins v o H) :
    Meets (Builtin.«enumerate.__new__» ⟨[.type "enumerate", v], []⟩) (fun _ R s => H s.heap ∧
      R (.ok (.ret (.ref (s.heap.push o).objs.size))) { s with heap := (s.heap.push o).push { cls := .type "enumerate", data := .fields #[.none, .bool false, .ref s.heap.objs.size, rawInt 0, .none, .none] } }) :=
  .of_wp fun prog w A R s h => by
    obtain ⟨hp, g, d, tk, os⟩ := s; obtain ⟨h1, h⟩ := h
    have hsub := sub_enumerate
    have q1 : ∀ {A' : Around} {E : Value → Shared → Prop} {Q : Value → Shared → Prop}, Q (.ref hp.objs.size) ⟨hp.push o, g, d, tk, os⟩ → wpAny (model prog w) A' (pyIter v) Q E ⟨hp, g, d, tk, os⟩ :=
      fun q => B.iter prog w _ _ ⟨hp, g, d, tk, os⟩ _ h1 q
    wp_walk using q1
    refine wpAny_stack_any fun st => wpAny_pure ?_
    split
    · rename_i c _ _ _ _ _
      cases (c == Value.type "enumerate")
      · wp_walk using q1
        exact ⟨_, rfl, h⟩
      · wp_walk using q1
        exact ⟨_, rfl, h⟩
    · wp_walk using q1
      exact ⟨_, rfl, h⟩
theorem enumK_begins {prog : Program} {w : World} {A : Around} {E : Value → Shared → Prop} {s : Shared} {t : Bool} {a : Addr} {its : Array Value} {Q : Value → Shared → Prop} (h1 : SeqK t s.heap a its)
    (h : ∀ h', IsEnum h' (s.heap.objs.size + 1) s.heap.objs.size 0 .none → IterK t h' s.heap.objs.size a 0 → (∀ c o, s.heap.get? c = some o → h'.get? c = some o) → Q (.ref (s.heap.objs.size + 1)) { s with heap := h' }) :
    wpAny (model prog w) A (call (.type "enumerate") [.ref a]) Q E s := by
  have B := beginsK t a its
  refine callType_new F.called_enumerate (by decide) (F.typeCall_enumerate_1 _) (F.newCall_enumerate_1 _) (fun obj => F.args_object_init_2 obj _) F.entry_enumerate_new (meets_enum1 B) ⟨h1, ?_⟩
  have hz : (s.heap.push (itO t a)).objs.size = s.heap.objs.size + 1 := Heap.size_push ..
  show _ ∧ _
  rw [hz]
  have he : IsEnum ((s.heap.push (itO t a)).push { cls := .type "enumerate", data := .fields #[.none, .bool false, .ref s.heap.objs.size, rawInt 0, .none, .none] }) (s.heap.objs.size + 1) s.heap.objs.size 0 .none := by
    have := Heap.get?_push_size (s.heap.push (itO t a)) (o := { cls := .type "enumerate", data := .fields #[.none, .bool false, .ref s.heap.objs.size, rawInt 0, .none, .none] }) rfl
    rw [hz] at this; exact this
  exact ⟨⟨_, he, rfl⟩, h _ he (iter0 (Heap.get?_push_of_some _ (Heap.get?_push_size _ B.free))) fun b o x => Heap.get?_push_of_some _ (Heap.get?_push_of_some _ x)⟩
def iEK (K : PySem.W.Frag) (ta : TA) : TI := fun σ H R => ta σ H fun vs H1 => ∃ t a xs, vs = [.ref a] ∧ SqK t K H1 a xs ∧ R (ItE t K a) H1
theorem pi_enumK {X : Cx} {e : Expr} {ta : TA} {p pos tpos : Pos} {elts : List Expr} {kk : Nat} (hg : Gl X "enumerate") (hm : X.mg "enumerate" = none) (ha : PA X [e] ta) (hs : starEach [e] X.env = [(false, eval e X.env)] := by rfl) :
    PI X (.Tuple elts kk tpos) (.Call (.Name "enumerate" p) [e] [] pos) (iEK X.K ta) := by
  refine ⟨fun pins s σ H R I h => ?_⟩
  refine Call_ (ld_blt I hg hm boot_enumerate (PyProof.Rows.callWith_type1 (thn (ha.run pos pins s σ H _ I h) fun us s1 ⟨vs, H1, I1, r1, q1⟩ => ?_) hs rfl))
  obtain ⟨t, a, xs, ex, hq, q⟩ := q1
  subst ex
  cases r1 with
  | cons r rr =>
    cases rr
    cases r
    obtain ⟨its, rv, p'⟩ := seqK I1 hq
    refine enumK_begins p' fun h' he hit hk => wpAny_pyIter_enum he ?_
    have I2 : Inv X pins σ H1 { s1 with heap := h' } := I1.kept (t' := s1.toks) hk
    refine ⟨s1.heap.objs.size + 1, [s1.heap.objs.size + 1, s1.heap.objs.size], _, _, H1, rfl, I2, turn_E (it := s1.heap.objs.size) (Nat.succ_ne_self _) (Nat.ne_of_gt (Nat.lt_succ_of_lt p'.lt)) (Nat.ne_of_lt p'.lt), ⟨⟨.none, by simpa using he⟩, hit⟩, fun b hb => ?_, q⟩
    have e' : b = s1.heap.objs.size + 1 ∨ b = s1.heap.objs.size := by simpa using hb
    have hle : s1.heap.objs.size ≤ b := by
      rcases e' with z | z <;> rw [z] <;> first | exact Nat.le_refl _ | exact Nat.le_add_right _ _
    exact I1.fpOk hle (I1.hok.fresh hle)
/-! ### their data -/
theorem sq_of_is {K : PySem.W.Frag} {c : Cn K} {B : Hp} {v : V} {d : D} {ds : List D} (i : Is c B v d) (h : d.items = some ds) : ∃ a t xs, v = .ref a ∧ (∀ B' H', Same B B' → Pre c B' H' → SqK t K H' a xs) ∧ IsL c B xs ds := by
  cases i with
  | lst h3 r => cases h; exact ⟨_, false, _, rfl, fun B' H' s p => SqL.of (p.bh _ _ (s _ _ h3)), r⟩
  | ro h3 r => cases h; exact ⟨_, false, _, rfl, fun B' H' s p => Same.l p.bh (Same.l s h3), r⟩
  | tup h3 r => cases h; exact ⟨_, true, _, rfl, fun B' H' s p => SqT.of (p.bh _ _ (s _ _ h3)), r⟩
  | _ => cases h
def zipD (ds es : List D) : List D := List.zipWith (fun d e => .tup [d, e]) ds es
def enuD (ds : List D) : List D := ds.zipIdx.map fun p => .tup [.int (p.2 : Nat), p.1]
theorem walk_Z {K : PySem.W.Frag} {c : Cn K} {Bl : Hp} {t1 t2 : Bool} {a b : Addr} {xs ys : List V} {ds es : List D} (h1 : ∀ B' H', Same Bl B' → Pre c B' H' → SqK t1 K H' a xs) (i1 : IsL c Bl xs ds) (h2 : ∀ B' H', Same Bl B' → Pre c B' H' → SqK t2 K H' b ys) (i2 : IsL c Bl ys es) :
    WalkD c Bl (ItZ t1 t2 K a b) (zipD ds es) := by
  intro B H i s p
  have q1 := h1 B H s p
  have q2 := h2 B H s p
  refine ⟨fun d hd => ?_, fun hl => ⟨xs, ys, q1, q2, by rw [hl, zipD, List.length_zipWith, i1.length, i2.length]⟩⟩
  rw [zipD, List.getElem?_zipWith] at hd
  cases g1 : ds[i]? with
  | none => rw [g1] at hd; simp at hd
  | some d1 =>
    cases g2 : es[i]? with
    | none => rw [g1, g2] at hd; simp at hd
    | some d2 =>
      rw [g1, g2] at hd
      cases hd
      obtain ⟨v1, e1, r1⟩ := i1.get g1
      obtain ⟨v2, e2, r2⟩ := i2.get g2
      refine ⟨⟨xs, ys, v1, v2, q1, q2, e1, e2⟩, fun x H' ⟨T, x1, x2, ex, hT, eh, f1, f2⟩ => ?_⟩
      have g3 := f1 _ q1
      have g4 := f2 _ q2
      rw [e1] at g3; rw [e2] at g4
      cases g3; cases g4
      subst ex; subst eh
      have st := Step.new p hT (.tup [v1, v2])
      exact ⟨_, st, .tup upd_same (.cons ((r1.mono s).mono st.b) (.cons ((r2.mono s).mono st.b) .nil))⟩
theorem walk_E {K : PySem.W.Frag} {c : Cn K} {Bl : Hp} {t : Bool} {a : Addr} {xs : List V} {ds : List D} (h1 : ∀ B' H', Same Bl B' → Pre c B' H' → SqK t K H' a xs) (i1 : IsL c Bl xs ds) : WalkD c Bl (ItE t K a) (enuD ds) := by
  intro B H i s p
  have q1 := h1 B H s p
  refine ⟨fun d hd => ?_, fun hl => ⟨xs, q1, by rw [hl, enuD, List.length_map, List.length_zipIdx, i1.length]⟩⟩
  rw [enuD, List.getElem?_map, List.getElem?_zipIdx] at hd
  cases g1 : ds[i]? with
  | none => rw [g1] at hd; simp at hd
  | some d1 =>
    rw [g1] at hd
    simp at hd
    subst hd
    obtain ⟨v1, e1, r1⟩ := i1.get g1
    refine ⟨⟨xs, v1, q1, e1⟩, fun x H' ⟨T, x1, ex, hT, eh, f1⟩ => ?_⟩
    have g3 := f1 _ q1
    rw [e1] at g3
    cases g3
    subst ex; subst eh
    have st := Step.new p hT (.tup [.int (i : Nat), v1])
    exact ⟨_, st, .tup upd_same (.cons (.int _) (.cons ((r1.mono s).mono st.b) .nil))⟩
def zip2 : List D → (List D → Prop) → Prop := fun l k => ∃ d e ds es, l = [d, e] ∧ d.items = some ds ∧ e.items = some es ∧ k (zipD ds es)
def enu1 : List D → (List D → Prop) → Prop := fun l k => ∃ d ds, l = [d] ∧ d.items = some ds ∧ k (enuD ds)
section
variable {X : Cx} {c : Cn X.K} {W : WX} {e a b tg : Expr} {es : List Expr} {pos p tpos : Pos} {f : DV} {g : DL} {elts : List Expr} {kk : Nat}
theorem ei_zip (hg : Gl X "zip") (hm : X.mg "zip" = none) (ha : EA X c W [a, b] g)
    (hs : starEach [a, b] X.env = (false, eval a X.env) :: starEach [b] X.env := by rfl) (hpl : (backTo pos (starEach [b] X.env)).any (·.1) = false := by rfl) :
    EI X c W (.Tuple elts kk tpos) (.Call (.Name "zip" p) [a, b] [] pos) (iArg g zip2) := by
  refine ⟨fun ρ k k' E E' hk hE q => ha.mn _ _ _ E E' (fun ds ⟨d, e, h1, h2, h3, h4, h5, h6⟩ => ⟨d, e, h1, h2, h3, h4, h5, hk _ h6⟩) hE q, wkI (pi_zipK hg hm ha.pa hs hpl) ?_⟩
  rintro σ H R ⟨B, ρ, p, rp, q⟩
  refine ⟨B, ρ, p, rp, ha.mn _ _ _ _ _ (fun ds hd vs B1 H1 s i1 => ?_) (fun _ z => z) q⟩
  obtain ⟨d, e, l1, l2, rfl, h1, h2, h3⟩ := hd
  obtain ⟨v, w, rfl, iv, iw⟩ := Is2 i1
  obtain ⟨a1, t1, xs, rfl, q1, r1⟩ := sq_of_is iv h1
  obtain ⟨a2, t2, ys, rfl, q2, r2⟩ := sq_of_is iw h2
  exact ⟨t1, t2, a1, a2, xs, ys, rfl, q1 _ _ (Same.refl _) s.pre, q2 _ _ (Same.refl _) s.pre, h3 _ B1 H1 s (walk_Z q1 r1 q2 r2)⟩
theorem ei_enum (hg : Gl X "enumerate") (hm : X.mg "enumerate" = none) (ha : EA X c W [a] g) (hs : starEach [a] X.env = [(false, eval a X.env)] := by rfl) :
    EI X c W (.Tuple elts kk tpos) (.Call (.Name "enumerate" p) [a] [] pos) (iArg g enu1) := by
  refine ⟨fun ρ k k' E E' hk hE q => ha.mn _ _ _ E E' (fun ds ⟨d, h1, h2, h3, h4⟩ => ⟨d, h1, h2, h3, hk _ h4⟩) hE q, wkI (pi_enumK hg hm ha.pa hs) ?_⟩
  rintro σ H R ⟨B, ρ, p, rp, q⟩
  refine ⟨B, ρ, p, rp, ha.mn _ _ _ _ _ (fun ds hd vs B1 H1 s i1 => ?_) (fun _ z => z) q⟩
  obtain ⟨d, l1, rfl, h1, h3⟩ := hd
  obtain ⟨v, rfl, iv⟩ := Is1 i1
  obtain ⟨a1, t1, xs, rfl, q1, r1⟩ := sq_of_is iv h1
  exact ⟨t1, a1, xs, rfl, q1 _ _ (Same.refl _) s.pre, h3 _ B1 H1 s (walk_E q1 r1)⟩
end
end Dv

set_option Elab.async false
set_option linter.all false
set_option maxRecDepth 100000
set_option maxHeartbeats 2000000
namespace Dv
open PySem PySem.Spec PyProof.Rows L2
/-! ### a def by its body -/
def startD (n : Nat) (ds : List D) : Sl := ds.map (fun d => some (.val d)) ++ List.replicate (n - ds.length) none
abbrev FX (P : Program) (w : World) (K : PySem.W.Frag) (mg : Str → Option Value) (base : Heap) (N : List Str) (q : Str) (st : Stmt) (f : Addr) (cdv : Value) (A : Around) (outer : List Env) (s : Shared) (H : Hp) (E : L2.XK) : Cx :=
  cxOf (L2.CX P w) P w K mg base N q (defScope st) f cdv A outer s H E
abbrev FW (E : L2.XK) : WX := fun cls d _ H => E cls d H
theorem start_len {N : List Str} {vs : List V} (h : vs.length ≤ N.length) : (L2.start N vs).length = N.length := by
  unfold L2.start
  rw [List.length_append, List.length_map, List.length_replicate]
  omega
theorem rep_start {K : PySem.W.Frag} {c : Cn K} {B H : Hp} {N : List Str} {vs : List V} {ds : List D} (p : Pre c B H) (h : IsL c B vs ds) (hl : vs.length ≤ N.length) : Rep c H B B H (L2.start N vs) (startD N.length ds) := by
  have e := h.length
  have g : ∀ (i : Nat) (s : Slot), (startD N.length ds)[i]? = some (some s) → ∃ d, s = .val d ∧ ds[i]? = some d := fun i s h => by
    unfold startD at h
    by_cases q : i < ds.length
    · rw [List.getElem?_append_left (by rw [List.length_map]; exact q), List.getElem?_map] at h
      cases z : ds[i]? with
      | none => rw [z] at h; cases h
      | some d => rw [z] at h; cases h; exact ⟨d, rfl, rfl⟩
    · rw [List.getElem?_append_right (by rw [List.length_map]; omega), List.getElem?_replicate] at h
      split at h <;> cases h
  refine ⟨p, Step.refl p, ?_, fun i s hs => ?_, fun i j a ds' es h => ?_⟩
  · rw [start_len hl]
    unfold startD
    rw [List.length_append, List.length_map, List.length_replicate]; omega
  · obtain ⟨d, rfl, h1⟩ := g i s hs
    obtain ⟨v, h2, h3⟩ := h.get h1
    refine ⟨v, ?_, h3⟩
    unfold L2.start
    rw [List.getElem?_append_left (by rw [List.length_map]; exact (List.getElem?_eq_some_iff.mp h2).1), List.getElem?_map, h2]; rfl
  · obtain ⟨d, z, _⟩ := g i _ h
    cases z
section
variable {P : Program} {w : World} {K : PySem.W.Frag} {mg : Str → Option Value} {base : Heap} {c : Cn K}
theorem fm_of {k : Nat} {A : Around} {N ps : List Str} {q : Str} {st : Stmt} {f : Addr} {cdv : Value} {outer : List Env} {s : Shared} {H : Hp} {E : L2.XK} (S : FnScope N ps (defScope st)) (hr : Room k (A.deeper (envOfC q (defScope st) s.heap.objs.size f cdv))) (hg : A.guards = some []) : Fm (FX P w K mg base N q st f cdv A outer s H E) (FW E) k :=
  ⟨S.nd, rfl, hr, hg, takes_of rfl rfl rfl rfl, passes_of rfl⟩
/-- the contract of a def (or a method) of qualified name q -/
theorem fnd_of {x q : Str} {st : Stmt} {f : Addr} {fd : FuncData} {N ps : List Str} {k : Nat} {sp : Sp} (fu : Fun K x q st f fd) (S : FnScope N ps (defScope st)) (len : ∀ vs H Q E, sp vs H Q E → vs.length = ps.length)
    (hbody : ∀ (cdv : Value) (A : Around) (outer : List Env) (s : Shared) (H : Hp) (vs : List V) (Q : VK) (E : L2.XK), Fm (FX P w K mg base N q st f cdv A outer s H E) (FW E) k → sp vs H Q E →
      ∃ t, PSs (FX P w K mg base N q st f cdv A outer s H E) (defBody st) t ∧ t { nx := fun _ H' => Q .non H', rt := Q } (L2.start N vs) H) : FnD P w K mg base (k + 1) f fd ps sp := by
  obtain ⟨oc, od, kV, doc, pm, an, cdv, ct, osl, rfl, lk, hcd⟩ := fu.ex
  refine ⟨len, fun A outer s H args us vs Q E hg hr e0 hb r hsp => ?_⟩
  have hl := len _ _ _ _ hsp
  have KX : K.In s.heap := e0.mod.kin.keeps fun b o e => (e0.bs b o e).1
  have lim : s.heap.NoLimit := e0.mod.nolimit.keeps fun b o e => (e0.bs b o e).1
  have hkind : ∀ y ∈ ps.zip us, (defScope st).names.lookup y.1 = some .local ∨ ((defScope st).names.lookup y.1 = some .cell ∧ ((cellsFrom (s.heap.objs.size + 1) (defScope st).names []).lookup y.1).isSome = true) := fun ⟨n, v⟩ hy => by
    rcases S.par n (List.of_mem_zip hy).1 with q | q
    · exact .inl q
    · exact .inr ⟨q, PySem.W.cellsFrom_some _ _ _ (.inl q)⟩
  refine codeAny_call_function hr.depth (KX _ _ lk) rfl S.co S.gen rfl (PySem.W.codeRec_of KX hcd) (hb _ _ _ _ ?_)
  refine wpAny_newFunctionEnv_cells S.kind hkind fun env he s1 x => ?_
  subst he
  refine ⟨lim.keeps x.toInCall.keep, codeAny_func ?_⟩
  obtain ⟨t, ht, hq⟩ := hbody cdv A outer s H vs Q E (fm_of S (hr.deeper _) hg) hsp
  have I : Inv (FX P w K mg base N q st f cdv A outer s H E) [] (L2.start N vs) H s1 := inv_start S hr.hd e0 hl r x
  refine wpAny_mono (ht.run [] s1 (L2.start N vs) H _ I hq) (fun fl s' hs => ?_) fun e s' hs => hs
  have fin : ∀ {σ' : L2.St} {H' : Hp} {v : V} {u : Value}, Inv (FX P w K mg base N q st f cdv A outer s H E) [] σ' H' s' → RelV v u → Q v H' → CE outer P w H s Q u s' :=
    fun {σ' H' v u} J rv q => ⟨v, H', J.os, J.bare, J.base, J.hok, rv, q⟩
  cases fl with
  | ret u =>
    obtain ⟨v, σ', H', J, rv, q⟩ := hs
    exact fin J rv q
  | next =>
    obtain ⟨σ', H', J, q⟩ := hs
    exact fin (v := V.non) (u := Value.none) J rfl q
  | brk =>
    obtain ⟨_, _, _, q⟩ := hs
    exact False.elim q
  | cont =>
    obtain ⟨_, _, _, q⟩ := hs
    exact False.elim q
theorem pre_len {N ps : List Str} {sc : Scope} (S : FnScope N ps sc) : ps.length ≤ N.length := by
  have := congrArg List.length S.pre
  rw [List.length_take] at this
  omega
theorem df_of {x : Str} {st : Stmt} {fd : FuncData} {N ps : List Str} {k : Nat} {F : DF} {b : DS} (hg : mg x = some (.ref (c.ca x))) (fu : Fun K x x st (c.ca x) fd) (S : FnScope N ps (defScope st)) (mn : MnF F)
    (hbody : ∀ (cdv : Value) (A : Around) (outer : List Env) (s : Shared) (H : Hp) (E : L2.XK), Fm (FX P w K mg base N x st (c.ca x) cdv A outer s H E) (FW E) k → SB (FX P w K mg base N x st (c.ca x) cdv A outer s H E) c (FW E) (defBody st) b)
    (hF : ∀ ds k E, ds.length = ps.length → F ds k E → b (startD N.length ds) ⟨fun _ => k (.val .non), k, fun _ => False, fun _ => False⟩ E) : Df P w K mg base c (k + 1) x st ps F := by
  have ok : FnD P w K mg base (k + 1) (c.ca x) fd ps (spD c ps.length F) := by
    refine fnd_of fu S (fun vs H Q E ⟨B, ds, p, i, l, _⟩ => i.length.trans l) fun cdv A outer s H vs Q E fm h => ?_
    obtain ⟨B, ds, p, i, l, q⟩ := h
    have hb := hbody cdv A outer s H E fm
    refine ⟨_, hb.ps, H, B, B, _, rep_start p i (by rw [i.length, l]; exact pre_len S), ?_⟩
    refine hb.mn _ ⟨fun _ => _, _, fun _ => False, fun _ => False⟩ _ _ _ ⟨fun ρ' hq σ' B' H' r' sm => ?_, fun r hq v B' H' st ro => ?_, fun ρ' hq => hq.elim, fun ρ' hq => hq.elim⟩ (fun xn hx => ?_) (hF ds _ _ l q)
    · exact hq V.non B' H' r'.st (rv_val .non)
    · exact hq v B' H' st ro
    · exact fun cls d σ' B' H' st xo => hx cls d B' H' st xo
  refine ⟨hg, fu.kp, mn, ?_⟩
  obtain ⟨oc, od, kV, doc, pm, an, cdv, ct, osl, rfl, lk, hcd⟩ := fu.ex
  exact ⟨kV, doc, pm, an, cdv, ct, ok⟩
theorem Df.weak {x : Str} {st : Stmt} {ps : List Str} {F G : DF} {k j : Nat} (d : Df P w K mg base c k x st ps F) (hk : k ≤ j) (mn : MnF G) (h : ∀ ds k E, G ds k E → F ds k E) : Df P w K mg base c j x st ps G := by
  obtain ⟨kV, doc, pm, an, cdv, ct, ok⟩ := d.ok
  refine ⟨d.g, d.kp, mn, kV, doc, pm, an, cdv, ct, ?_⟩
  have o := ok.mono hk
  refine ⟨fun vs H Q E ⟨B, ds, p, i, l, _⟩ => i.length.trans l, fun A outer s H args us vs Q E hg hr e0 hb r ⟨B, ds, p, i, l, q⟩ => ?_⟩
  exact o.run A outer s H args us vs Q E hg hr e0 hb r ⟨B, ds, p, i, l, h _ _ _ q⟩
end

/-! ### statements that are never come to -/
def sNever : DS := fun _ _ _ => False
theorem ss_never {X : Cx} {c : Cn X.K} {W : WX} {st : Stmt} : SS X c W st sNever := ⟨fun _ _ _ _ _ _ _ q => q, ⟨fun pins s σ H D I ⟨_, _, _, _, _, q⟩ => q.elim⟩⟩
theorem sb_one {X : Cx} {c : Cn X.K} {W : WX} {st : Stmt} {f : DS} (h : SS X c W st f) : SB X c W [st] f :=
  ⟨h.mn, pss_one h.ps⟩
def vNever : DV := fun _ _ _ => False
theorem ev_never {X : Cx} {c : Cn X.K} {W : WX} {e : Expr} : EV X c W e vNever := ⟨fun _ _ _ _ _ _ _ q => q, ⟨fun pins s σ H Q I ⟨_, _, _, _, q⟩ => q.elim⟩⟩
end Dv

set_option Elab.async false
set_option linter.all false
set_option maxRecDepth 100000
set_option maxHeartbeats 2000000
namespace Dv
open PySem PySem.Spec PyProof.Rows L2
section
variable {X : Cx} {c : Cn X.K} {W : WX} {e a b : Expr} {es : List Expr} {pos p : Pos} {f g : DV} {j k : Nat}
/-! ### x op= e, whole numbers -/
def ipC (C : Int → Int → Prop) (g : Int → Int → Int) : TIp := fun x y H Q => ∃ i j, x = .int i ∧ y = .int j ∧ C i j ∧ Q (.int (g i j)) H
theorem ip_addC : PIp X .Add (ipC (fun _ _ => True) fun i j => i + j) := by
  intro pins s σ H x y v u Q I r1 r2 h
  obtain ⟨i, j, e1, e2, _, q⟩ := h
  exact ip_add pins s σ H x y v u Q I r1 r2 ⟨i, j, e1, e2, q⟩
theorem ip_subC : PIp X .Sub (ipC (fun _ _ => True) fun i j => i - j) := by
  intro pins s σ H x y v u Q I r1 r2 h
  obtain ⟨i, j, e1, e2, _, q⟩ := h
  exact ip_sub pins s σ H x y v u Q I r1 r2 ⟨i, j, e1, e2, q⟩
theorem ip_mulC : PIp X .Mult (ipC IntMulOk fun i j => i * j) := by
  intro pins s σ H x y v u Q I r1 r2 h
  obtain ⟨i, j, e1, e2, hc, q⟩ := h
  subst e1; subst e2
  obtain ⟨t, rfl⟩ := r1
  obtain ⟨t', rfl⟩ := r2
  exact PyProof.Rows.imul_int ⟨.int _, H, I.tok _, ⟨_, rfl⟩, q⟩ hc
theorem ip_fdC : PIp X .FloorDiv (ipC CFd fun i j => i.fdiv j) := by
  intro pins s σ H x y v u Q I r1 r2 h
  obtain ⟨i, j, e1, e2, hc, q⟩ := h
  subst e1; subst e2
  obtain ⟨t, rfl⟩ := r1
  obtain ⟨t', rfl⟩ := r2
  exact ifloordiv_int hc.1 ⟨.int _, H, I.tok _, ⟨_, rfl⟩, q⟩ (.inl (PyProof.noPylong_of_log2 hc.2))
def augI (C : Int → Int → Prop) (g : Int → Int → Int) (i : Nat) (f : DV) : DS := fun ρ k E => ∃ n, ρ[i]? = some (some (.val (.int n))) ∧ f (viewN ρ) (fun d => ∃ m, d = .int m ∧ C n m ∧ k.nx (ρ.set i (some (.val (.int (g n m)))))) E
theorem ss_aug {C : Int → Int → Prop} {o : Int → Int → Int} {op : Operator} {i : Nat} {x : Str} {pos' : Pos} (m : Fm X W j) (ho : PIp X op (ipC C o)) (h : EV X c W e f) (hi : X.N[i]? = some x := by rfl) (hx : Loc X.env.scope x := by first | exact Or.inl rfl | exact Or.inr rfl)
    (hf : X.fn x = true ∨ X.env.scope.names.lookup x = some .local := by first | exact .inl rfl | exact .inr rfl) : SS X c W (.AugAssign (.Name x pos') op e pos) (augI C o i f) := by
  refine ⟨fun ρ k k' E E' hk hE ⟨n, h1, q⟩ => ⟨n, h1, h.mn _ _ _ E E' (fun d ⟨m, h2, h3, h4⟩ => ⟨m, h2, h3, hk.nx _ h4⟩) hE q⟩, wkS (ps_aug m.nd hi hx h.pe ho hf) ?_⟩
  rintro D σ H ⟨H0, B0, B, ρ, r, n, h1, q⟩
  obtain ⟨v, h2, h3⟩ := r.sl i _ h1
  cases h3
  refine ⟨_, h2, B, _, r.pre, r.viewN, h.mn _ _ _ _ _ (fun d hd v B1 H1 s i1 => ?_) (fun x hx => hx.repN r) q⟩
  obtain ⟨m, rfl, h3, h4⟩ := hd
  cases i1
  exact ⟨n, m, rfl, rfl, h3, h4 _ B1 H1 ((r.goN s).setV (.int _)) s.b⟩

/-! ### displays with a star -/
structure EAs (X : Cx) (c : Cn X.K) (W : WX) (es : List Expr) (f : DL) : Prop where
  mn : Mn f
  pa : PA X es (tL c W f)
theorem EA.s {g : DL} (h : EA X c W es g) : EAs X c W es g := ⟨h.mn, h.pa⟩
theorem eas_cons {g : DL} (he : EV X c W e f) (hr : EAs X c W es g) (hs : starEach (e :: es) X.env = (false, eval e X.env) :: starEach es X.env := by rfl) : EAs X c W (e :: es) (aCons f g) := by
  refine ⟨fun ρ k k' E E' hk hE q => he.mn ρ _ _ E E' (fun d q => hr.mn ρ _ _ E E' (fun ds q => hk _ q) hE q) hE q, wkA (pa_cons he.pe hr.pa hs) ?_⟩
  rintro σ H Q ⟨B, ρ, p, rp, q⟩
  refine ⟨B, ρ, p, rp, he.mn _ _ _ _ _ (fun d hd x B1 H1 s1 i1 => ?_) (fun _ z => z) q⟩
  refine ⟨B1, ρ, s1.pre, rp.mono s1.b, hr.mn _ _ _ _ _ (fun ds hds vs B2 H2 s2 i2 => ?_) (fun x z => z.step s1) hd⟩
  exact hds _ B2 H2 (s1.trans s2) (.cons (i1.mono s2.b) i2)
def aStar (f : DV) (g : DL) : DL := fun ρ k E => f ρ (fun d => ∃ ds, d.items = some ds ∧ g ρ (fun es => k (ds ++ es)) E) E
theorem eas_star {g : DL} (he : EV X c W e f) (hr : EAs X c W es g) (hs : starEach (.Starred e p :: es) X.env = (true, eval e X.env) :: starEach es X.env := by rfl) : EAs X c W (.Starred e p :: es) (aStar f g) := by
  refine ⟨fun ρ k k' E E' hk hE q => he.mn ρ _ _ E E' (fun d ⟨ds, h1, q⟩ => ⟨ds, h1, hr.mn ρ _ _ E E' (fun ds q => hk _ q) hE q⟩) hE q, wkA (StX.pa_star he.pe hr.pa hs) ?_⟩
  rintro σ H Q ⟨B, ρ, p, rp, q⟩
  refine ⟨B, ρ, p, rp, he.mn _ _ _ _ _ (fun d hd x B1 H1 s1 i1 => ?_) (fun _ z => z) q⟩
  obtain ⟨ds, h1, hd⟩ := hd
  obtain ⟨a, t, xs, rfl, h2, h3⟩ := sq_of_is i1 h1
  have h4 := h2 B1 H1 (Same.refl _) s1.pre
  refine ⟨a, xs, rfl, ?_, B1, ρ, s1.pre, rp.mono s1.b, hr.mn _ _ _ _ _ (fun es hes vs B2 H2 s2 i2 => ?_) (fun x z => z.step s1) hd⟩
  · cases t with
    | true => exact .inl h4
    | false => exact .inr h4
  · exact hes _ B2 H2 (s1.trans s2) ((h3.mono s2.b).append i2)
def dTupS (g : DL) : DV := fun ρ k E => g ρ (fun ds => ds.length ≤ sizeLine ∧ k (.tup ds)) E
def dLstS (g : DL) : DR := fun ρ k E => g ρ (fun ds => ds.length ≤ sizeLine ∧ k (.new ds)) E
theorem ev_tupS {g : DL} {x1 : Nat} (h : EAs X c W es g) : EV X c W (.Tuple es x1 pos) (dTupS g) := by
  refine ⟨fun ρ k k' E E' hk hE q => h.mn ρ _ _ E E' (fun ds q => ⟨q.1, hk _ q.2⟩) hE q, wkE (pe_tup h.pa) ?_⟩
  rintro σ H Q ⟨B, ρ, p, rp, q⟩
  refine ⟨B, ρ, p, rp, h.mn _ _ _ _ _ (fun ds hd vs B1 H1 s1 i1 => ⟨?_, fun q' hq => ?_⟩) (fun _ z => z) q⟩
  · rw [i1.length]; exact hd.1
  · have s2 := Step.new s1.pre hq (.tup vs)
    exact hd.2 _ _ _ (s1.trans s2) (.tup upd_same (i1.mono s2.b))
theorem er_lstS {g : DL} (h : EAs X c W es g) : ER X c W (.List es pos) (dLstS g) := by
  refine ⟨fun ρ k k' E E' hk hE q => h.mn ρ _ _ E E' (fun ds q => ⟨q.1, hk _ q.2⟩) hE q, wkE (pe_lst h.pa) ?_⟩
  rintro σ H Q ⟨B, ρ, p, rp, q⟩
  refine ⟨B, ρ, p, rp, h.mn _ _ _ _ _ (fun ds hd vs B1 H1 s1 i1 => ⟨?_, fun q' hq => ?_⟩) (fun _ z => z) q⟩
  · rw [i1.length]; exact hd.1
  · exact hd.2 _ _ _ (s1.trans (Step.lay s1.pre hq (.lst vs))) (RvOk.up s1 (rv_new upd_same i1 (s1.pre.bnone hq) hq))
/-- {} -/
def vDct : DV := fun _ k _ => k .dct
theorem ev_dct : EV X c W (.Dict [] [] pos) vDct := by
  refine ⟨fun ρ k k' E E' hk hE q => hk _ q, wkE pe_dnewK ?_⟩
  rintro σ H Q ⟨B, ρ, p, rp, q⟩
  intro q' hq
  exact q _ _ _ (Step.new p hq _) (.dct upd_same)
end

/-! ### a class with an __init__ -/
def spM {K : PySem.W.Frag} (c : Cn K) (C : Str) (n : Nat) (F : DF) : Sp := fun vs H Q E => ∃ (Hb B : Hp) (x dx : Addr) (us : List V) (ds : List D), vs = .ref x :: us ∧ H = upd (upd Hb dx (.own x)) x (.ins (c.ca C) dx []) ∧ Hb x = none ∧ Hb dx = none ∧ dx ≠ x ∧ Pre c B Hb ∧ IsL c B us ds ∧ ds.length = n ∧
  F ds (fun r => ∀ B' H', Step c B Hb B' H' → RvOk c Hb B' H' (.ref x) r → Q .non H') (fun xn => ∀ cls d B' H', Step c B Hb B' H' → XOk c B' H' cls d xn → E cls d H')
def BindM (q : Str) (st : Stmt) (ps ks : List Str) (n : Nat) (g : List Value → List Value) : Prop :=
  ∀ (kV doc pm : Value) (an : Option Addr) (cdv ct : Value) (self : Value) (us ws : List Value), us.length = n → ws.length = ks.length →
    bindArgs (PySem.W.fnOf "__init__" q (defArgs st) (defBody st) (defScope st) .none kV doc pm an cdv ct) ⟨self :: us, ks.zip ws⟩ = pure ((("self" : Str), self) :: ps.zip (g (us ++ ws)))
structure Dm (P : Program) (w : World) (K : PySem.W.Frag) (mg : Str → Option Value) (base : Heap) (c : Cn K) (j : Nat) (C q : Str) (st : Stmt) (ps : List Str) (F : DF) : Prop where
  g : mg C = some (.ref (c.ca C))
  mn : MnF F
  ok : ∃ (fI : Addr) (kV doc pm : Value) (an : Option Addr) (cdv ct : Value), Mk K (c.ca C) fI ∧ FnD P w K mg base j fI (PySem.W.fnOf "__init__" q (defArgs st) (defBody st) (defScope st) .none kV doc pm an cdv ct) (("self" : Str) :: ps) (spM c C ps.length F)
theorem make_guards {A : Around} {C : Addr} {us : List Value} {kw : List (Str × Value)} : (A.under (.builtin "type.__call__" ⟨.ref C :: us, kw⟩)).guards = A.guards := by
  first | rfl | simp [Around.under, Code.guards, Code.isGuard, guardIds, pushGuards]
section
variable {X : Cx} {c : Cn X.K} {W : WX} {e a b : Expr} {es : List Expr} {pos : Pos} {f g : DV} {j k : Nat}
theorem run_makeD {pins : List (Addr × Obj)} {σ : L2.St} {H : Hp} {s : Shared} {Q : VK} {us ws : List Value} {vs : List V} {C q : Str} {st : Stmt} {ps ks : List Str} {F : DF} {perm : List Nat} {n : Nat} {B : Hp} {ds : List D} (m : Fm X W j) (d : Dm X.prog X.w X.K X.mg X.base c k C q st ps F) (hk : k + 1 ≤ j)
    (hb : BindM q st ps ks n (pick perm)) (I : Inv X pins σ H s) (l1 : us.length = n) (l2 : ws.length = ks.length) (r : Vals vs (us ++ ws)) (p : Pre c B H) (i : IsL c B vs ds) (hn : (pick perm ds).length = ps.length)
    (h : F (pick perm ds) (fun r => ∀ v B' H', Step c B H B' H' → RvOk c H B' H' v r → Q v H') (fun xn => ∀ cls d σ' B' H', Step c B H B' H' → XOk c B' H' cls d xn → W cls d σ' H')) :
    wpAny (model X.prog X.w) X.A (call (.ref (c.ca C)) us (ks.zip ws)) (EP X pins σ Q) X.xe s := by
  obtain ⟨fI, kV, doc, pm, an, cdv, ct, M, F1⟩ := d.ok
  have I2 := Inv.made (C := c.ca C) I
  have hx : H (s.heap.objs.size + 1) = none := I.hok.fresh (Nat.le_succ _)
  have hd : H s.heap.objs.size = none := I.hok.fresh (Nat.le_refl _)
  have hne : s.heap.objs.size ≠ s.heap.objs.size + 1 := Nat.ne_of_lt (Nat.lt_succ_self _)
  have rp := pick_vals r perm
  have hz : spM c C ps.length F (V.ref (s.heap.objs.size + 1) :: pick perm vs) (upd (upd H s.heap.objs.size (.own (s.heap.objs.size + 1))) (s.heap.objs.size + 1) (.ins (c.ca C) s.heap.objs.size [])) (fun v H2 => v = .non ∧ Q (.ref (s.heap.objs.size + 1)) H2) (fun cls d H' => ∀ σ', W cls d σ' H') := by
    refine ⟨H, B, _, _, _, _, rfl, rfl, hx, hd, hne, p, pick_is i perm, hn, d.mn _ _ _ _ _ (fun r hr B' H' st ro => ⟨rfl, hr _ B' H' st ro⟩) (fun xn hq cls d B' H' st xo σ' => hq cls d σ' B' H' st xo) h⟩
  have hr1 : Room (k + 1) X.A := m.room.mono hk
  refine wpAny_call (make_map (f := fI) I.kIn M.makes M.init (beq_iff_eq.mp M.fn) (codeAny_mono (F1.run _ X.stack _ _ ⟨Value.ref (s.heap.objs.size + 1) :: us, ks.zip ws⟩ (Value.ref (s.heap.objs.size + 1) :: pick perm (us ++ ws)) _ _ _ (make_guards.trans m.gd) (hr1.make (c.ca C) us (ks.zip ws))
    (I2.env0.make (c.ca C) us (ks.zip ws)) (.of_eq (hb kV doc pm an cdv ct _ us ws l1 l2)) (show Vals (V.ref (s.heap.objs.size + 1) :: pick perm vs) (Value.ref (s.heap.objs.size + 1) :: pick perm (us ++ ws)) from .cons rfl rp) hz) fun r s' hq' => ?_))
  cases r with
  | error e => exact passes_call m.tk (fun cls d σ H h => h σ) pins σ _ _ e s' I2 hq'
  | ok fl =>
    cases fl with
    | ret u =>
      obtain ⟨v, H', I3, rv, ev, q3⟩ := I2.after hq'
      subst ev
      exact ⟨rv, ⟨V.ref (s.heap.objs.size + 1), H', I3, rfl, q3⟩⟩
    | next => exact False.elim hq'
    | brk => exact False.elim hq'
    | cont => exact False.elim hq'
/-- C(e, .., k = v, ..) -/
theorem er_makeK {g h : DL} {x q : Str} {st : Stmt} {ps ks : List Str} {kws : List Keyword} {perm : List Nat} {F : DF} {p : Pos} (m : Fm X W j) (d : Dm X.prog X.w X.K X.mg X.base c k x q st ps F) (hk : k + 1 ≤ j) (hg : Gl X x) (hb : BindM q st ps ks (e :: es).length (pick perm))
    (ha : EA X c W (e :: es) g) (hw : EK X c W kws h) (hp : ∀ ds es' : List D, ds.length = (e :: es).length → es'.length = kws.length → (pick perm (ds ++ es')).length = ps.length) (hlk : kws.length = ks.length := by rfl)
    (hall : (backToKw pos (keywordEach kws X.env)).all (·.1.isSome) = true := by rfl) (hks : (backToKw pos (keywordEach kws X.env)).filterMap (·.1) = ks := by rfl)
    (hdb : (x == ("__debug__" : Str)) = false := by decide) (he : starEach (e :: es) X.env = (false, eval e X.env) :: starEach es X.env := by rfl)
    (hpl : ((backTo pos (starEach (e :: es) X.env)).any (·.1) || (backToKw pos (keywordEach kws X.env)).any (·.1.isNone)) = false := by rfl) :
    ER X c W (.Call (.Name x p) (e :: es) kws pos) (dCallK g h perm F) := by
  refine ⟨callk_mn ha.mn hw.mn d.mn, ⟨fun pins s σ H Q I q => ?_⟩⟩
  have M := d.ok
  obtain ⟨fI, _, _, _, _, _, _, M, _⟩ := M
  refine wpAny_Call_Name_kw (ld_glob I hg d.g ?_ hdb)
  obtain ⟨B, ρ, pr, rp, q⟩ := q
  have ht : tL c W g σ H fun vs H1 => vs.length = (e :: es).length ∧ tL c W h σ H1 fun zs H2 => zs.length = kws.length ∧ ∃ B ds, Pre c B H2 ∧ IsL c B (vs ++ zs) ds ∧ (pick perm ds).length = ps.length ∧
      F (pick perm ds) (fun r => ∀ v B' H', Step c B H2 B' H' → RvOk c H2 B' H' v r → Q v H') (fun xn => ∀ cls d σ' B' H', Step c B H2 B' H' → XOk c B' H' cls d xn → W cls d σ' H') := by
    refine ⟨B, ρ, pr, rp, ha.mn _ _ _ _ _ (fun ds hd vs B1 H1 s1 i1 => ⟨i1.length.trans hd.1, ?_⟩) (fun _ z => z) (ha.len _ _ _ q)⟩
    refine ⟨B1, ρ, s1.pre, rp.mono s1.b, hw.mn _ _ _ _ _ (fun es' he zs B2 H2 s2 i2 => ⟨i2.length.trans he.1, ?_⟩) (fun x z => z.step s1) (hw.len _ _ _ hd.2)⟩
    refine ⟨B2, _, s2.pre, (i1.mono s2.b).append i2, hp ds es' hd.1 he.1, d.mn _ _ _ _ _ (fun r hr v B' H' s3 ro => ?_) (fun x hx cls d σ' B' H' s3 xo => ?_) he.2⟩
    · exact hr v B' H' (s1.trans (s2.trans s3)) (ro.up (s1.trans s2))
    · exact hx cls d σ' B' H' (s1.trans (s2.trans s3)) xo
  refine PySem.W.callWith_KW (h₀ := X.base) I.ok.mod.kin M.kp hall (thn (ha.pa.run pos pins s σ H _ I ht) fun us s1 ⟨vs, H1, I1, r, l1, q1⟩ => ?_) hpl he
  refine thn (hw.pk.run pos pins s1 σ H1 _ I1 q1) fun ws s2 ⟨zs, H2, I2, rz, l2, B2, ds, p2, i2, hn, q2⟩ => ⟨I2.kIn, ?_⟩
  rw [hks]
  exact run_makeD m d hk hb I2 (r.length.symm.trans l1) ((rz.length.symm.trans l2).trans hlk) (r.append rz) p2 i2 hn q2
/-- C(e, ..) -/
theorem er_make {g : DL} {x q : Str} {st : Stmt} {ps : List Str} {F : DF} {p : Pos} {perm : List Nat} (m : Fm X W j) (d : Dm X.prog X.w X.K X.mg X.base c k x q st ps F) (hk : k + 1 ≤ j) (hg : Gl X x) (hb : BindM q st ps [] (e :: es).length (pick perm))
    (ha : EA X c W (e :: es) g) (hp : ∀ ds es' : List D, ds.length = (e :: es).length → es'.length = ([] : List Keyword).length → (pick perm (ds ++ es')).length = ps.length)
    (hdb : (x == ("__debug__" : Str)) = false := by decide) (he : starEach (e :: es) X.env = (false, eval e X.env) :: starEach es X.env := by rfl)
    (hpl : ((backTo pos (starEach (e :: es) X.env)).any (·.1) || (backToKw pos (keywordEach [] X.env)).any (·.1.isNone)) = false := by rfl) :
    ER X c W (.Call (.Name x p) (e :: es) [] pos) (dCallK g aNil perm F) := er_makeK (ks := []) m d hk hg hb ha ek_nil hp rfl rfl rfl hdb he hpl
end
/-! the body of an __init__ -/
abbrev DI := View → List (Str × D) → (List (Str × D) → Prop) → (Exn → Prop) → Prop
def tF {K : PySem.W.Frag} (c : Cn K) (W : WX) (C : Str) (g : DI) : TS := fun Dn σ H => ∃ (Hb B0 B : Hp) (ρ : View) (x dx : Addr) (vs : List (Str × V)) (fs : List (Str × D)), Pre c B0 Hb ∧ Hb x = none ∧ Step c B0 Hb B H ∧ B x = none ∧ H x = some (.ins (c.ca C) dx vs) ∧ RepV c B σ ρ ∧ σ[0]? = some (some (.ref x)) ∧ IsF c B vs fs ∧
  g ρ fs (fun fs' => ∀ B' H' vs', Step c B0 Hb B' H' → B' x = none → H' x = some (.ins (c.ca C) dx vs') → IsF c B' vs' fs' → Dn.nx σ H') (XK c W B0 Hb)
structure IFs (X : Cx) (c : Cn X.K) (W : WX) (C : Str) (sts : List Stmt) (g : DI) : Prop where
  mn : ∀ ρ fs k k' E E', (∀ f, k f → k' f) → (∀ x, E x → E' x) → g ρ fs k E → g ρ fs k' E'
  ps : PSs X sts (tF c W C g)
def putD (f : Str) (d : D) : List (Str × D) → List (Str × D)
  | [] => [(f, d)]
  | (g, x) :: r => if g = f then (g, d) :: r else (g, x) :: putD f d r
theorem IsF.put {K : PySem.W.Frag} {c : Cn K} {B : Hp} {v : V} {d : D} (f : Str) (i : Is c B v d) : ∀ {vs : List (Str × V)} {fs : List (Str × D)}, IsF c B vs fs → IsF c B (putF f v vs) (putD f d fs)
  | _, _, .nil => .cons i .nil
  | _, _, .cons (x := g) h t => by
    unfold putF putD
    by_cases q : g = f
    · rw [if_pos q, if_pos q]; exact .cons i t
    · rw [if_neg q, if_neg q]; exact .cons h (IsF.put f i t)
theorem IsF.length {K : PySem.W.Frag} {c : Cn K} {B : Hp} : ∀ {vs : List (Str × V)} {fs : List (Str × D)}, IsF c B vs fs → vs.length = fs.length
  | _, _, .nil => rfl
  | _, _, .cons h t => congrArg (· + 1) (IsF.length t)
section
variable {X : Cx} {c : Cn X.K} {W : WX} {e a b : Expr} {es : List Expr} {pos p p2 : Pos} {f g : DV} {j k : Nat} {C : Str}
def iNil : DI := fun _ fs k _ => k fs
def iCons (f : DV) (x : Str) (g : DI) : DI := fun ρ fs k E => f ρ (fun d => fs.length < 1000 ∧ g ρ (putD x d fs) k E) E
theorem if_nil : IFs X c W C [] iNil := by
  refine ⟨fun ρ fs k k' E E' hk hE q => hk _ q, wkSs pss_nil ?_⟩
  rintro D σ H ⟨Hb, B0, B, ρ, x, dx, vs, fs, p, hx, s, bx, h1, rv, h0, i, q⟩
  exact q B H vs s bx h1 i
theorem if_cons {x : Str} {sts : List Stmt} {g : DI} (cl : Cls X.K (c.ca C)) (na : NoAttr X.K (c.ca C) x) (ho : PE X (.Name "self" p) (tVar 0)) (he : EV X c W e f) (hr : IFs X c W C sts g) (hs : swapsWith e (some (.Attribute (.Name "self" p) x p2)) pos.line X.env = pure false := by rfl) :
    IFs X c W C (.Assign [.Attribute (.Name "self" p) x p2] e pos :: sts) (iCons f x g) := by
  refine ⟨fun ρ fs k k' E E' hk hE q => he.mn _ _ _ E E' (fun d ⟨h1, q⟩ => ⟨h1, hr.mn _ _ _ _ _ _ hk hE q⟩) hE q, wkSs (pss_cons (ps_fld ho he.pe hs) hr.ps) ?_⟩
  rintro D σ H ⟨Hb, B0, B, ρ, y, dx, vs, fs, p, hx, s, bx, h1, rv, h0, i, q⟩
  refine ⟨B, ρ, s.pre, rv, he.mn _ _ _ _ _ (fun d hd v B1 H1 s1 i1 => ?_) (fun xn z cls d σ' B' H' t xo => z cls d σ' B' H' (s.trans t) xo) q⟩
  obtain ⟨hl, hd⟩ := hd
  have h2 : H1 y = some (.ins (c.ca C) dx vs) := s1.out y _ h1 (p.nmu hx) (fun _ z => nomatch z)
  have bx1 : B1 y = none := (s1.dom y (by rw [h1]; exact fun z => nomatch z)).trans bx
  have il := (i.mono s1.b)
  refine ⟨_, h0, y, c.ca C, dx, vs, rfl, h2, cl, na, by rw [i.length]; exact hl, ?_⟩
  exact ⟨Hb, B0, B1, ρ, y, dx, _, _, p, hx, (s.trans s1).put p hx bx1 ⟨_, h2, nk_ins⟩, bx1, upd_same, rv.mono s1.b, h0, il.put x i1, hd⟩
/-- statements ahead, then the fields -/
abbrev DJ := Nat → Sl → (List (Str × D) → Prop) → (Exn → Prop) → Prop
def tJ {K : PySem.W.Frag} (c : Cn K) (W : WX) (C : Str) (h : DJ) : TS := fun Dn σ H => ∃ (Hb B0 B : Hp) (x dx : Addr) (ρ : Sl), Pre c B0 Hb ∧ Hb x = none ∧ Hb dx = none ∧ dx ≠ x ∧ Rep c (upd (upd Hb dx (.own x)) x (.ins (c.ca C) dx [])) B0 B H σ ρ ∧ ρ[0]? = some (some (.val (.opq x))) ∧
  h x ρ (fun fs' => ∀ σ' B' H' vs', Step c B0 Hb B' H' → B' x = none → H' x = some (.ins (c.ca C) dx vs') → IsF c B' vs' fs' → Dn.nx σ' H') (XK c W B0 Hb)
structure IB (X : Cx) (c : Cn X.K) (W : WX) (C : Str) (sts : List Stmt) (h : DJ) : Prop where
  mn : ∀ x ρ k k' E E', (∀ f, k f → k' f) → (∀ x, E x → E' x) → h x ρ k E → h x ρ k' E'
  ps : PSs X sts (tJ c W C h)
theorem made_step {K : PySem.W.Frag} {c : Cn K} {B Hb : Hp} {x dx : Addr} {C : Addr} (p : Pre c B Hb) (hx : Hb x = none) (hd : Hb dx = none) (hn : dx ≠ x) : Step c B Hb B (upd (upd Hb dx (.own x)) x (.ins C dx [])) := by
  have s1 := Step.lay p hd (.own x)
  exact s1.trans (Step.lay s1.pre (by rw [upd_ne hn.symm]; exact hx) _)
def jFlds (g : DI) : DJ := fun x ρ k E => g (viewN ρ) [] k E
theorem ib_flds {sts : List Stmt} {g : DI} (h : IFs X c W C sts g) : IB X c W C sts (jFlds g) := by
  refine ⟨fun x ρ k k' E E' hk hE q => h.mn _ _ _ _ _ _ hk hE q, wkSs h.ps ?_⟩
  rintro D σ H ⟨Hb, B0, B, x, dx, ρ, p, hx, hd, hn, r, h0, q⟩
  have ms := made_step (C := c.ca C) p hx hd hn
  obtain ⟨v, e0, i0⟩ := r.sl 0 _ h0
  cases i0
  have hX : (upd (upd Hb dx (.own x)) x (.ins (c.ca C) dx [])) x = some (.ins (c.ca C) dx []) := upd_same
  refine ⟨Hb, B0, B, viewN ρ, x, dx, [], [], p, hx, ms.trans r.st, ?_, r.st.out x _ hX (p.nmu hx) (fun _ z => nomatch z), r.viewN, e0, .nil, h.mn _ _ _ _ _ _ (fun fs' hq B' H' vs' s b1 b2 b3 => hq σ B' H' vs' s b1 b2 b3) (fun _ z => z) q⟩
  rw [r.st.dom x (by rw [hX]; exact fun z => nomatch z)]
  exact p.bnone hx
def jCons (f : DS) (h : DJ) : DJ := fun x ρ k E => f ρ ⟨fun ρ' => ρ'[0]? = some (some (.val (.opq x))) ∧ h x ρ' k E, fun _ => False, fun _ => False, fun _ => False⟩ E
theorem ib_cons {st : Stmt} {sts : List Stmt} {f : DS} {h : DJ} (h1 : SS X c W st f) (h2 : IB X c W C sts h) : IB X c W C (st :: sts) (jCons f h) := by
  refine ⟨fun x ρ k k' E E' hk hE q => h1.mn ρ ⟨fun ρ' => ρ'[0]? = some (some (.val (.opq x))) ∧ h x ρ' k E, fun _ => False, fun _ => False, fun _ => False⟩ ⟨fun ρ' => ρ'[0]? = some (some (.val (.opq x))) ∧ h x ρ' k' E', fun _ => False, fun _ => False, fun _ => False⟩ E E' ⟨fun ρ' ⟨a, b⟩ => ⟨a, h2.mn _ _ _ _ _ _ hk hE b⟩, fun _ z => z, fun _ z => z, fun _ z => z⟩ hE q, wkSs (pss_cons h1.ps h2.ps) ?_⟩
  rintro D σ H ⟨Hb, B0, B, x, dx, ρ, p, hx, hd, hn, r, h0, q⟩
  have ms := made_step (C := c.ca C) p hx hd hn
  refine ⟨_, B0, B, ρ, r, h1.mn _ ⟨_, fun _ => False, fun _ => False, fun _ => False⟩ _ _ _ ⟨fun ρ' ⟨a, b⟩ σ' B' H' r' sm => ?_, fun _ z => z.elim, fun _ z => z.elim, fun _ z => z.elim⟩ (fun xn z cls d σ' B' H' t xo => z cls d σ' B' H' (ms.trans t) xo) q⟩
  exact ⟨Hb, B0, B', x, dx, ρ', p, hx, hd, hn, r', a, b⟩
end
/-- a class by its __init__'s body -/
theorem dm_of {P : Program} {w : World} {K : PySem.W.Frag} {mg : Str → Option Value} {base : Heap} {c : Cn K} {C q : Str} {st : Stmt} {fI : Addr} {fd : FuncData} {N ps : List Str} {k : Nat} {F : DF} {h : DJ} (hg : mg C = some (.ref (c.ca C))) (M : Mk K (c.ca C) fI) (fu : Fun K "__init__" q st fI fd) (S : FnScope N (("self" : Str) :: ps) (defScope st)) (mn : MnF F)
    (hbody : ∀ (cdv : Value) (A : Around) (outer : List Env) (s : Shared) (H : Hp) (E : L2.XK), Fm (FX P w K mg base N q st fI cdv A outer s H E) (FW E) k → IB (FX P w K mg base N q st fI cdv A outer s H E) c (FW E) C (defBody st) h)
    (hF : ∀ ds k E x, ds.length = ps.length → F ds k E → h x (startD N.length (.opq x :: ds)) (fun fs => OwnC K (c.ca C) (fs.map (·.1)) ∧ k (.val (.obj C fs))) E) : Dm P w K mg base c (k + 1) C q st ps F := by
  have ok : FnD P w K mg base (k + 1) fI fd (("self" : Str) :: ps) (spM c C ps.length F) := by
    refine fnd_of fu S (fun vs H Q E ⟨Hb, B, x, dx, us, ds, e, _, _, _, _, _, i, l, _⟩ => by rw [e, List.length_cons, i.length, l]; rfl) fun cdv A outer s H vs Q E fm z => ?_
    obtain ⟨Hb, B, x, dx, us, ds, rfl, rfl, hx, hd, hn, p, i, l, q⟩ := z
    have hb := hbody cdv A outer s _ E fm
    have ms := made_step (C := c.ca C) p hx hd hn
    refine ⟨_, hb.ps, Hb, B, B, x, dx, startD N.length (.opq x :: ds), p, hx, hd, hn, rep_start ms.pre (.cons (.opq x) i) (by rw [List.length_cons, i.length, l]; exact pre_len S), rfl, ?_⟩
    refine hb.mn _ _ _ _ _ _ (fun fs' ⟨oc, hq⟩ σ' B' H' vs' s1 b1 b2 b3 => ?_) (fun xn hx cls d σ' B' H' st xo => hx cls d B' H' st xo) (hF ds _ _ x l q)
    have s2 := s1.keep hx p b2 b1
    exact hq _ H' s2 (.obj upd_same oc (b3.mono (Same.new b1)))
  obtain ⟨oc, od, kV, doc, pm, an, cdv, ct, osl, rfl, lk, hcd⟩ := fu.ex
  exact ⟨hg, mn, fI, kV, doc, pm, an, cdv, ct, M, ok⟩
end Dv

set_option Elab.async false
set_option linter.all false
set_option maxRecDepth 100000
set_option maxHeartbeats 2000000
namespace Dv
open PySem PySem.Spec PyProof.Rows L2
/-! ### the draw: a dict with a list of great numbers, a list of cells, two numbers -/
structure DrawP where
  dd : Addr
  la : Addr
  cl : Addr
  cs : List Int
  o : Bool
def kvD (P : DrawP) (r t : Int) : List (Key × V) :=
  if P.o = true then [(.inr "large", .ref P.la), (.inr "cells", .ref P.cl), (.inr "rest", .int r), (.inr "turn", .int t)]
  else [(.inr "large", .ref P.la), (.inr "rest", .int r), (.inr "cells", .ref P.cl), (.inr "turn", .int t)]
structure DrIs (P : DrawP) (H : Hp) (ls : List Int) (r t : Int) : Prop where
  d : H P.dd = some (.dK (kvD P r t))
  l : H P.la = some (.lst (ls.map .int))
  c : H P.cl = some (.lst (P.cs.map .int))
def drI (P : DrawP) (H : Hp) : Prop := P.dd ≠ P.la ∧ P.dd ≠ P.cl ∧ P.la ≠ P.cl ∧ ∃ ls r t, DrIs P H ls r t
/-! ### tables of code objects, what is known of lambdas' code -/
structure LamP where
  T : List (Addr × Str)
  lm : Nat → LamT
structure invL (L : LamP) (H : Hp) : Prop where
  t : LamX.Tabs L.T H
  f : ∀ f ob u, H f = some (.frz ob u) → ∀ (M : LamT) (tk : List (Str × Addr)) (pm : Value) (c' : Addr) (ctv : Value), ob = lamOb M tk pm c' ctv → H c' = some (LamX.CodeO c' M.q)
def LamP.mu (L : LamP) (a : Addr) : Prop := a ∈ L.T.map (·.1)
theorem kp_code {c : Addr} {q : Str} : Kp (LamX.CodeO c q) := .inl ⟨_, rfl⟩
theorem invL.loc {L : LamP} {H H' : Hp} (h1 : ∀ a o, (L.mu a ∨ Kp o) → H a = some o → H' a = some o) (h2 : ∀ a ob u, H' a = some (.frz ob u) → H a = some (.frz ob u)) (i : invL L H) : invL L H' := by
  refine ⟨fun p hp => ?_, fun f ob u e M tk pm c' ctv q => h1 _ _ (.inr kp_code) (i.f f ob u (h2 _ _ _ e) M tk pm c' ctv q)⟩
  obtain ⟨ps, e1, e2, e3⟩ := i.t p hp
  refine ⟨ps, h1 _ _ (.inl (List.mem_map.mpr ⟨p, hp, rfl⟩)) e1, e2, fun pos cv hc => ?_⟩
  obtain ⟨k, q1, q2⟩ := e3 pos cv hc
  exact ⟨k, q1, h1 _ _ (.inr kp_code) q2⟩
theorem invL.dm {L : LamP} {H : Hp} {a : Addr} (i : invL L H) (m : L.mu a) : ∃ ps, H a = some (.tbl ps) := by
  obtain ⟨p, hp, e⟩ := List.mem_map.mp m
  obtain ⟨ps, e1, _⟩ := i.t p hp
  exact ⟨ps, by rw [← e]; exact e1⟩
theorem invL.upd {L : LamP} {H : Hp} {a : Addr} {u o : HO} (i : invL L H) (h : H a = some u) (nk : ¬ Kp u) (nt : ∀ ps, u ≠ .tbl ps) (nf : ∀ ob w, o ≠ .frz ob w) : invL L (upd H a o) := by
  refine i.loc (fun b w m e => (upd_ne fun z => ?_).trans e) fun b ob w e => ?_
  · rw [z] at e m
    rcases m with m | m
    · obtain ⟨ps, e2⟩ := i.dm m
      rw [h] at e2; exact nt ps (Option.some.inj e2)
    · rw [h] at e; cases e; exact nk m
  · by_cases z : b = a
    · rw [z, upd_same] at e; exact absurd (Option.some.inj e) (nf ob w)
    · rw [upd_ne z] at e; exact e
theorem nk_dK {kv : List (Key × V)} : ¬ Kp (.dK kv) := fun m => by rcases m with ⟨φ, m⟩ | ⟨ob, u, m⟩ <;> cases m
def cD (K : PySem.W.Frag) (ca : Str → Addr) (L : LamP) (P : DrawP) : Cn K where
  ca := ca
  dd := P.dd
  lm := L.lm
  mu := fun a => (a = P.dd ∨ a = P.la ∨ a = P.cl) ∨ L.mu a
  inv := fun H => drI P H ∧ invL L H
  loc := fun H H' h h2 ⟨⟨n1, n2, n3, ls, r, t, i⟩, il⟩ => ⟨⟨n1, n2, n3, ls, r, t, h _ _ (.inl (.inl (.inl rfl))) i.d, h _ _ (.inl (.inl (.inr (.inl rfl)))) i.l, h _ _ (.inl (.inl (.inr (.inr rfl)))) i.c⟩, il.loc (fun a o m e => h a o (m.imp .inr id) e) h2⟩
  dm := fun H a ⟨⟨_, _, _, ls, r, t, i⟩, il⟩ m => by
    rcases m with (rfl | rfl | rfl) | m
    · rw [i.d]; exact fun z => nomatch z
    · rw [i.l]; exact fun z => nomatch z
    · rw [i.c]; exact fun z => nomatch z
    · obtain ⟨ps, e⟩ := il.dm m
      rw [e]; exact fun z => nomatch z
theorem val_large (P : DrawP) (r t : Int) : valV (kvD P r t) (.inr "large") = some (.ref P.la) := by
  unfold kvD
  cases P.o <;> exact valV_pos rfl
theorem ks1 : ¬ (Sum.inr "large" : Key) = .inr "cells" := by decide +kernel
theorem ks2 : ¬ (Sum.inr "large" : Key) = .inr "rest" := by decide +kernel
theorem ks3 : ¬ (Sum.inr "large" : Key) = .inr "turn" := by decide +kernel
theorem ks4 : ¬ (Sum.inr "rest" : Key) = .inr "cells" := by decide +kernel
theorem ks5 : ¬ (Sum.inr "cells" : Key) = .inr "rest" := by decide +kernel
theorem ks6 : ¬ (Sum.inr "cells" : Key) = .inr "turn" := by decide +kernel
theorem ks7 : ¬ (Sum.inr "rest" : Key) = .inr "turn" := by decide +kernel
theorem ks8 : ¬ (Sum.inr "turn" : Key) = .inr "rest" := by decide +kernel
theorem val_cells (P : DrawP) (r t : Int) : valV (kvD P r t) (.inr "cells") = some (.ref P.cl) := by
  unfold kvD
  cases P.o
  · exact (valV_neg ks1).trans ((valV_neg ks4).trans (valV_pos rfl))
  · exact (valV_neg ks1).trans (valV_pos rfl)
theorem val_rest (P : DrawP) (r t : Int) : valV (kvD P r t) (.inr "rest") = some (.int r) := by
  unfold kvD
  cases P.o
  · exact (valV_neg ks2).trans (valV_pos rfl)
  · exact (valV_neg ks2).trans ((valV_neg ks5).trans (valV_pos rfl))
theorem val_turn (P : DrawP) (r t : Int) : valV (kvD P r t) (.inr "turn") = some (.int t) := by
  unfold kvD
  cases P.o
  · exact (valV_neg ks3).trans ((valV_neg ks7).trans ((valV_neg ks6).trans (valV_pos rfl)))
  · exact (valV_neg ks3).trans ((valV_neg ks6).trans ((valV_neg ks7).trans (valV_pos rfl)))
theorem put_rest (P : DrawP) (r t n : Int) : putK (kvD P r t) (.inr "rest") (.int n) = kvD P n t := by
  unfold kvD putK
  have a1 : ¬ ("large" : Str) = "rest" := by decide +kernel
  have a2 : ¬ ("cells" : Str) = "rest" := by decide +kernel
  have a3 : ¬ ("turn" : Str) = "rest" := by decide +kernel
  cases P.o <;> simp [a1, a2, a3]
theorem put_turn (P : DrawP) (r t n : Int) : putK (kvD P r t) (.inr "turn") (.int n) = kvD P r n := by
  unfold kvD putK
  have a1 : ¬ ("large" : Str) = "turn" := by decide +kernel
  have a2 : ¬ ("cells" : Str) = "turn" := by decide +kernel
  have a3 : ¬ ("rest" : Str) = "turn" := by decide +kernel
  cases P.o <;> simp [a1, a2, a3]
theorem kvD_len (P : DrawP) (r t : Int) : (kvD P r t).length < sizeLine := by
  unfold kvD
  cases P.o <;> exact (by decide : 4 < sizeLine)
section
variable {K : PySem.W.Frag} {ca : Str → Addr} {P : DrawP} {B H B1 H1 : Hp}
theorem Rep.mu {c : Cn K} {H0 B0 : Hp} {σ : L2.St} {ρ : Sl} (r : Rep c H0 B0 B H σ ρ) {a : Addr} {o : HO} (m : c.mu a) (hi : c.inv (upd H a o)) : Rep c H0 B0 B (upd H a o) σ ρ := by
  have na : ∀ b, H0 b = none → b ≠ a := fun b h z => r.p0.nmu h (by rw [z]; exact m)
  refine ⟨r.p0, ⟨r.st.b, fun b u e => ?_, r.st.dom, fun b u e n z => ?_, fun b e => ?_, hi, r.st.av⟩, r.len, fun i s hs => ?_, r.inj⟩
  · rw [upd_ne (fun z => by rw [z, r.st.av a m] at e; cases e)]; exact r.st.bh b u e
  · rw [upd_ne (fun z => n (by rw [z]; exact m))]; exact r.st.out b u e n z
  · by_cases q : b = a
    · rw [q, upd_same]; exact fun z => nomatch z
    · rw [upd_ne q]; exact r.st.th b e
  · have q := r.sl i s hs
    cases s with
    | val d => exact q
    | own ds =>
      obtain ⟨b, vs, h1, h2, h3, h4, h5⟩ := q
      exact ⟨b, vs, h1, by rw [upd_ne (na b h5)]; exact h2, h3, h4, h5⟩
/-- the draw is changed -/
theorem Step.mu {c : Cn K} (s : Step c B H B1 H1) (p : Pre c B H) {a : Addr} {o : HO} (m : c.mu a) (hi : c.inv (upd H1 a o)) : Step c B H B1 (upd H1 a o) := by
  refine ⟨s.b, fun b u e => ?_, s.dom, fun b u e n z => ?_, fun b e => ?_, hi, s.av⟩
  · rw [upd_ne (fun z => by rw [z, s.av a m] at e; cases e)]; exact s.bh b u e
  · rw [upd_ne (fun z => n (by rw [z]; exact m))]; exact s.out b u e n z
  · by_cases q : b = a
    · rw [q, upd_same]; exact fun z => nomatch z
    · rw [upd_ne q]; exact s.th b e
theorem DrIs.setD {ls : List Int} {r t r' t' : Int} (i : DrIs P H ls r t) (n1 : P.dd ≠ P.la) (n2 : P.dd ≠ P.cl) : DrIs P (upd H P.dd (.dK (kvD P r' t'))) ls r' t' :=
  ⟨upd_same, by rw [upd_ne n1.symm]; exact i.l, by rw [upd_ne n2.symm]; exact i.c⟩
theorem DrIs.setL {ls ls' : List Int} {r t : Int} {xs : List V} (i : DrIs P H ls r t) (n1 : P.dd ≠ P.la) (n3 : P.la ≠ P.cl) (e : xs = ls'.map .int) : DrIs P (upd H P.la (.lst xs)) ls' r t :=
  ⟨by rw [upd_ne n1]; exact i.d, by rw [e, upd_same], by rw [upd_ne n3.symm]; exact i.c⟩
end
section
variable {X : Cx} {ca : Str → Addr} {L : LamP} {P : DrawP} {W : WX} {e a b : Expr} {pos p p2 pos2 : Pos} {f : DV} {j k : Nat}
def vDr (i : Nat) : DV := fun ρ k _ => ρ[i]? = some (some .drw) ∧ ∀ n : Int, k (.int n)
theorem dr_slot {K : PySem.W.Frag} {L : LamP} {P : DrawP} {ca : Str → Addr} {B : Hp} {σ : L2.St} {ρ : View} {i : Nat} (r : RepV (cD K ca L P) B σ ρ) (h : ρ[i]? = some (some .drw)) : σ[i]? = some (some (.ref P.dd)) := by
  obtain ⟨v, h1, h2⟩ := r.2 i _ h
  cases h2
  exact h1
theorem ev_drI {x key : Str} {i : Nat} {kk : Nat} (hk : key = "rest" ∨ key = "turn") (hu : X.A.units + 1 < cLine) (hx : PE X (.Name x p) (tVar i)) (hs : NoSl (.Constant (.str key) kk p2) := by intro _ _; rfl) :
    EV X (cD X.K ca L P) W (.Subscript (.Name x p) (.Constant (.str key) kk p2) pos) (vDr i) := by
  refine ⟨fun ρ k k' E E' hk hE ⟨q1, q2⟩ => ⟨q1, fun n => hk _ (q2 n)⟩, wkE (pe_dget hu hx pe_str hs) ?_⟩
  rintro σ H Q ⟨B, ρ, p, rp, q1, q2⟩
  have i1 := p.inv
  obtain ⟨⟨n1, n2, n3, ls, r, t, i2⟩, iL⟩ := i1
  rcases hk with rfl | rfl
  · exact ⟨_, dr_slot rp q1, P.dd, .int r, rfl, by have z := DGet.k (k := .inr "rest") i2.d; rw [val_rest] at z; exact z, q2 r _ B H (Step.refl p) (.int r)⟩
  · exact ⟨_, dr_slot rp q1, P.dd, .int t, rfl, by have z := DGet.k (k := .inr "turn") i2.d; rw [val_turn] at z; exact z, q2 t _ B H (Step.refl p) (.int t)⟩
def iDr (i : Nat) : DL := fun ρ k _ => ρ[i]? = some (some .drw) ∧ ∀ cs : List Int, k (cs.map .int)
theorem dr_get {te : TE} {x key : Str} {kk : Nat} (hu : X.A.units + 1 < cLine) (hx : PE X (.Name x p) te) (hs : NoSl (.Constant (.str key) kk p2)) : PE X (.Subscript (.Name x p) (.Constant (.str key) kk p2) pos) (tDGet te (tC (.str key))) := pe_dget hu hx pe_str hs
theorem ei_dr {x : Str} {i kk : Nat} {tg : Expr} (hu : X.A.units + 1 < cLine) (hx : PE X (.Name x p) (tVar i)) (hs : NoSl (.Constant (.str "cells") kk p2) := by intro _ _; rfl) :
    EI X (cD X.K ca L P) W tg (.Subscript (.Name x p) (.Constant (.str "cells") kk p2) pos) (iDr i) := by
  refine ⟨fun ρ k k' E E' hk hE ⟨q1, q2⟩ => ⟨q1, fun n => hk _ (q2 n)⟩, wkI (pi_seq (dr_get hu hx hs)) ?_⟩
  rintro σ H R ⟨B, ρ, p, rp, q1, q2⟩
  have i1 := p.inv
  obtain ⟨⟨n1, n2, n3, ls, r, t, i2⟩, iL⟩ := i1
  refine ⟨_, dr_slot rp q1, P.dd, .ref P.cl, rfl, by have z := DGet.k (k := .inr "cells") i2.d; rw [val_cells] at z; exact z, P.cl, rfl, .inl ⟨⟨_, SqL.of i2.c⟩, q2 P.cs _ B H (Step.refl p) (walk_lst (vs := P.cs.map .int) (fun B' H' s p' => ?_) ?_)⟩⟩
  · obtain ⟨⟨_, _, _, ls', r', t', i3⟩, _⟩ := p'.inv
    exact SqL.of i3.c
  · induction P.cs with
    | nil => exact .nil
    | cons n ns ih => exact .cons (.int n) ih
def sDrPut (i : Nat) (f : DV) : DS := fun ρ k E => ρ[i]? = some (some (.val .drw)) ∧ f (viewN ρ) (fun d => ∃ n, d = .int n ∧ k.nx ρ) E
theorem ss_drPut {x key : Str} {i kk : Nat} (hk : key = "rest" ∨ key = "turn") (hu : X.A.units + 1 < cLine) (hx : PE X (.Name x p) (tVar i)) (he : EV X (cD X.K ca L P) W e f) (hs : swapsWith e (some (.Subscript (.Name x p) (.Constant (.str key) kk p2) pos2)) pos.line X.env = pure false := by rfl) :
    SS X (cD X.K ca L P) W (.Assign [.Subscript (.Name x p) (.Constant (.str key) kk p2) pos2] e pos) (sDrPut i f) := by
  refine ⟨fun ρ k k' E E' hk hE ⟨q1, q2⟩ => ⟨q1, he.mn _ _ _ E E' (fun d ⟨n, h1, h2⟩ => ⟨n, h1, hk.nx _ h2⟩) hE q2⟩, wkS (ps_dput hu hx pe_str he.pe hs) ?_⟩
  rintro D σ H ⟨H0, B0, B, ρ, r, h1, q⟩
  refine ⟨B, _, r.pre, r.viewN, he.mn _ _ _ _ _ (fun d hd v B1 H1 s i1 => ?_) (fun x hx => hx.repN r) q⟩
  obtain ⟨n, rfl, hd⟩ := hd
  cases i1
  have r1 := r.goN s
  obtain ⟨v, e1, e2⟩ := r.sl i _ h1
  cases e2
  obtain ⟨⟨n1, n2, n3, ls, rr, t, i2⟩, iL⟩ := s.inv
  have iL2 : ∀ r' t', invL L (upd H1 P.dd (.dK (kvD P r' t'))) := fun r' t' => iL.upd i2.d nk_dK (fun ps z => nomatch z) fun ob w z => nomatch z
  refine ⟨_, e1, P.dd, ?_⟩
  rcases hk with rfl | rfl
  · have z := DPut.k (k := .inr "rest") (v := .int n) i2.d (kvD_len P rr t)
    rw [put_rest] at z
    exact ⟨_, rfl, z, hd σ B1 _ (r1.mu (a := P.dd) (Or.inl (Or.inl rfl)) ⟨⟨n1, n2, n3, ls, n, t, i2.setD n1 n2⟩, iL2 _ _⟩) s.b⟩
  · have z := DPut.k (k := .inr "turn") (v := .int n) i2.d (kvD_len P rr t)
    rw [put_turn] at z
    exact ⟨_, rfl, z, hd σ B1 _ (r1.mu (a := P.dd) (Or.inl (Or.inl rfl)) ⟨⟨n1, n2, n3, ls, rr, n, i2.setD n1 n2⟩, iL2 _ _⟩) s.b⟩
/-! draw['large'].pop(0) if draw['large'] != [] else f(draw) -/
theorem ints_dp {K : PySem.W.Frag} {H : Hp} : ∀ ls : List Int, DpAll K H (ls.map .int) (ls.map .int)
  | [] => .nil
  | n :: ls => .cons (.int n) (ints_dp ls)
theorem ints_lay : ∀ ls : List Int, PyData.canLayAll0 (ls.map .int) = true ∧ PyData.depthAll (ls.map .int) ≤ 1
  | [] => by simp [PyData.canLayAll0, PyData.depthAll]
  | n :: ls => by
    have q := ints_lay ls
    simp only [List.map_cons, PyData.canLayAll0, PyData.canLay0, PyData.depthAll, PyData.depth, Bool.and_eq_true]
    exact ⟨⟨trivial, q.1⟩, by omega⟩
theorem ints_shaped (ls : List Int) : SeqAt.shaped (.list (ls.map .int)) = true := by
  have q := ints_lay ls
  unfold SeqAt.shaped
  simp only [PyData.canLay0, PyData.depth, q.1, Bool.true_and]
  exact decide_eq_true (by omega)
theorem ints_ne (ls : List Int) : (!PyData.eqv (.list (ls.map .int)) (.list [])) = !ls.isEmpty := by
  cases ls with
  | nil => rfl
  | cons n ls => rfl
/-- draw['large'] != [] -/
theorem dr_some {x : Str} {i kk : Nat} {l1 : Pos} (hu : X.A.units + 64 < cLine) (hx : PE X (.Name x p) (tVar i)) (hs : NoSl (.Constant (.str "large") kk p2)) :
    PT X (.Compare (.Subscript (.Name x p) (.Constant (.str "large") kk p2) pos) [.NotEq] [.List [] l1] pos2) (tTest (tOp (rNeD X.K) (tDGet (tVar i) (tC (.str "large"))) (tLst tNil))) :=
  pt_cmpR (op_neD hu) (dr_get (by omega) hx hs) (pe_lst pa_nil) (nomark _)
theorem dr_test {K : PySem.W.Frag} {H : Hp} {σ : L2.St} {i : Nat} {ls : List Int} {r t : Int} {Q : Bool → Hp → Prop} (h0 : σ[i]? = some (some (.ref P.dd))) (d : DrIs P H ls r t) (q : ∀ H', (∀ a o, H a = some o → H' a = some o) → (∀ a, H a = none → ∀ o, H' a = some o → o = .lst []) → Q (!ls.isEmpty) H') :
    tTest (tOp (rNeD K) (tDGet (tVar i) (tC (.str "large"))) (tLst tNil)) σ H Q := by
  refine ⟨_, h0, P.dd, .ref P.la, rfl, by have z := DGet.k (k := .inr "large") d.d; rw [val_large] at z; exact z, Nat.zero_le _, fun p hp => ?_⟩
  have hl : (upd H p (.lst ([] : List V))) P.la = some (.lst (ls.map .int)) := by rw [upd_ne (ne_of_none d.l hp)]; exact d.l
  refine ⟨_, _, .lst (SqL.of hl) (ints_dp ls), .lst (SqL.of upd_same) .nil, ints_shaped ls, ints_shaped [], _, rfl, ?_⟩
  rw [ints_ne]
  refine q _ (fun a o e => ?_) fun a e o e2 => ?_
  · rw [upd_ne (ne_of_none e hp)]; exact e
  · by_cases z : a = p
    · subst z; rw [upd_same] at e2; exact (Option.some.inj e2).symm
    · rw [upd_ne z, e] at e2; cases e2
theorem pe_drPop {x : Str} {i kk k0 : Nat} {p3 apos cpos : Pos} (hu : X.A.units + 1 < cLine) (hx : PE X (.Name x p) (tVar i)) (hs : NoSl (.Constant (.str "large") kk p2))
    (hb : attributeBase (.Subscript (.Name x p) (.Constant (.str "large") kk p2) pos) "pop" X.env (eval (.Subscript (.Name x p) (.Constant (.str "large") kk p2) pos) X.env) = eval (.Subscript (.Name x p) (.Constant (.str "large") kk p2) pos) X.env) (hm : M1Ok X (.Constant (.int 0) k0 p3) apos cpos) :
    PE X (.Call (.Attribute (.Subscript (.Name x p) (.Constant (.str "large") kk p2) pos) "pop" apos) [.Constant (.int 0) k0 p3] [] cpos) (tBM X.K "list" rPopAt (tDGet (tVar i) (tC (.str "large"))) (tCons (tC (.int 0)) tNil)) :=
  pe_bm PySem.F.plainAttrs_list PySem.F.slot_list_pop PySem.F.type_list_pop mt_popAt (dr_get hu hx hs) (pa_cons pe_int pa_nil hm.st) hb hm.few hm.line hm.st rfl
theorem dr_pop {K : PySem.W.Frag} {H : Hp} {σ : L2.St} {i : Nat} {ls : List Int} {n r t : Int} {Q : VK} (h0 : σ[i]? = some (some (.ref P.dd))) (d : DrIs P H (n :: ls) r t) (q : Q (.int n) (upd H P.la (.lst (ls.map .int)))) :
    tBM K "list" rPopAt (tDGet (tVar i) (tC (.str "large"))) (tCons (tC (.int 0)) tNil) σ H Q := by
  refine ⟨_, h0, P.dd, .ref P.la, rfl, by have z := DGet.k (k := .inr "large") d.d; rw [val_large] at z; exact z, own_ty d.l, P.la, _, 0, 0, .int n, rfl, rfl, d.l, by decide, by decide, ?_, rfl, ?_⟩
  · unfold seqIndex?
    simp
  · exact q
def rDrNext (i : Nat) (g : DR) : DR := fun ρ k E => ρ[i]? = some (some .drw) ∧ (∀ n : Int, k (.val (.int n))) ∧ g ρ k E
theorem er_drNext {x : Str} {i kk kk' k0 : Nat} {g : DR} {p1 p1' p2' pp p3 apos cpos l1 : Pos} (hu : X.A.units + 64 < cLine) (hx : ∀ p, PE X (.Name x p) (tVar i)) (hg : ER X (cD X.K ca L P) W e g) (hs : ∀ kk p2, NoSl (.Constant (.str "large") kk p2) := by intro _ _ _ _; rfl)
    (hb : attributeBase (.Subscript (.Name x p) (.Constant (.str "large") kk p2) pos) "pop" X.env (eval (.Subscript (.Name x p) (.Constant (.str "large") kk p2) pos) X.env) = eval (.Subscript (.Name x p) (.Constant (.str "large") kk p2) pos) X.env := by rfl) (hm : M1Ok X (.Constant (.int 0) k0 p3) apos cpos := by exact ⟨rfl, rfl, rfl⟩) :
    ER X (cD X.K ca L P) W (.IfExp (.Compare (.Subscript (.Name x p1) (.Constant (.str "large") kk' p2') p1') [.NotEq] [.List [] l1] pos2) (.Call (.Attribute (.Subscript (.Name x p) (.Constant (.str "large") kk p2) pos) "pop" apos) [.Constant (.int 0) k0 p3] [] cpos) e pp) (rDrNext i g) := by
  refine ⟨fun ρ k k' E E' hk hE ⟨q1, q2, q3⟩ => ⟨q1, fun n => hk _ (q2 n), hg.mn _ _ _ _ _ hk hE q3⟩, wkE (pe_ifExp (dr_some hu (hx _) (hs _ _)) (pe_drPop (by omega) (hx _) (hs _ _) hb hm) hg.pe) ?_⟩
  rintro σ H Q ⟨B, ρ, p, rp, q1, q2, q3⟩
  have h0 := dr_slot rp q1
  obtain ⟨⟨n1, n2, n3, ls, r, t, d⟩, iL⟩ := p.inv
  refine dr_test h0 d fun H1 k1 k2 => ?_
  have hst : Step (cD X.K ca L P) B H B H1 := by
    refine ⟨fun _ _ h => h, fun a o e => k1 _ _ (p.bh a o e), fun _ _ => rfl, fun a o e _ _ => k1 _ _ e, fun a e => ?_, ?_, p.av⟩
    · cases z : H a with
      | none => exact absurd z e
      | some o => rw [k1 _ _ z]; exact fun z => nomatch z
    · exact (cD X.K ca L P).loc H H1 (fun a o _ e => k1 _ _ e) (fun a ob u e => by
        cases z : H a with
        | none => have := k2 a z _ e; cases this
        | some o => rw [k1 _ _ z] at e; rw [e]) p.inv
  have d1 : DrIs P H1 ls r t := ⟨k1 _ _ d.d, k1 _ _ d.l, k1 _ _ d.c⟩
  cases ls with
  | nil => exact ⟨B, ρ, hst.pre, rp, hg.mn _ _ _ _ _ (fun u hu v B' H' s i => hu v B' H' (hst.trans s) (i.up hst)) (fun x z => z.step hst) q3⟩
  | cons n ls =>
    refine dr_pop h0 d1 ?_
    exact q2 n _ B _ (hst.mu p (a := P.la) (Or.inl (Or.inr (Or.inl rfl))) ⟨⟨n1, n2, n3, ls, r, t, d1.setL n1 n3 rfl⟩, hst.inv.2.upd d1.l nk_lst (fun ps z => nomatch z) fun ob w z => nomatch z⟩) (.int n)
end
end Dv

set_option Elab.async false
set_option linter.all false
set_option maxRecDepth 100000
set_option maxHeartbeats 2000000
namespace Dv
open PySem PySem.Spec PyProof.Rows L2
/-! ### the law's end -/
/-- what is tracked when the law is called: the script, if the written part has not got it -/
def scrH (K : PySem.W.Frag) (a : Addr) (vs : List Value) (ns : List Int) : Hp := fun b => if b = a ∧ (K.lookup a).isNone = true then some (.frz { cls := .type "list", data := .seq vs.toArray } (.lst (ns.map V.int))) else none
theorem scrH_some {K : PySem.W.Frag} {a b : Addr} {vs : List Value} {ns : List Int} {u : HO} (h : scrH K a vs ns b = some u) : b = a ∧ (K.lookup a).isNone = true ∧ u = .frz { cls := .type "list", data := .seq vs.toArray } (.lst (ns.map V.int)) := by
  unfold scrH at h
  split at h
  · rename_i q
    exact ⟨q.1, q.2, (Option.some.inj h).symm⟩
  · cases h
theorem end_call {P : Program} {w : World} {K : PySem.W.Frag} {mg mb : Str → Option Value} {k : Nat} {fa a : Addr} {fd : FuncData} {x : Str} {sp : Sp} {s1 : Shared} {vs : List Value} {ns : List Int} (KX : K.In s1.heap) (hm : s1.heap.Ns mainGlobals mg) (hb : s1.heap.Ns builtinsNs mb)
    (hbb : ∀ x : Str, x ≠ "__name__" → mb x = bootBuiltins x) (hlim : s1.heap.NoLimit) (hg : s1.gens = #[]) (ha : s1.heap.get? a = some { cls := .type "list", data := .seq vs.toArray }) (hi : IntsAre vs ns) (hl : ns.length ≤ sizeLine) (hr : Room k callerA)
    (F : ∀ base : Heap, K.In base → base.Ns mainGlobals mg → FnD P w K mg base k fa fd [x] sp) (hbind : ∀ (s : Shared) (u : Value), BindsTo s fd ⟨[u], []⟩ [(x, u)])
    (hsp : ∀ H : Hp, SqL K H a (ns.map V.int) → sp [.ref a] H (fun v _ => v = .bl true) fun _ _ _ => False) :
    codeAny (model P w) callerA (.call (.ref fa) ⟨[.ref a], []⟩) (fun r s' => r = .ok (.ret (.bool true)) ∧ OldK s1.heap s'.heap ∧ s'.os = s1.os ∧ AllBare s'.gens) s1 := by
  have rv := vals_ints hi
  generalize hH : scrH K a vs ns = H
  have tr : ∀ b u, H b = some u → b = a ∧ (K.lookup a).isNone = true ∧ u = .frz { cls := .type "list", data := .seq vs.toArray } (.lst (ns.map V.int)) := fun b u q => by rw [← hH] at q; exact scrH_some q
  have nA : ∀ {b : Addr}, b ≠ a → H b = none := fun {b} n => by
    cases q : H b with
    | none => rfl
    | some u => exact absurd (tr b u q).1 n
  have out : ∀ {b : Addr} {o : Obj}, s1.heap.get? b = some o → H b = none → (hidT s1.heap H).get? b = some o := fun q n => hidT_get q n
  have nsK : ∀ {b : Addr} {m : Str → Option Value}, s1.heap.Ns b m → (hidT s1.heap H).Ns b m := fun {b m} z => by
    obtain ⟨o, es, ep, q, d, r⟩ := z
    refine ⟨o, es, ep, out q ?_, d, r⟩
    by_cases ba : b = a
    · subst ba
      rw [ha] at q
      cases q
      cases (show Data.seq vs.toArray _ = Data.dict es ep from d)
    · exact nA ba
  have kin : K.In (hidT s1.heap H) := fun b o q => out (KX b o q) (by
    cases z : H b with
    | none => rfl
    | some u =>
      obtain ⟨rfl, n, _⟩ := tr b u z
      rw [q] at n; cases n)
  have sq : SqL K H a (ns.map V.int) := by
    cases z : K.lookup a with
    | some o =>
      have q := KX a o z
      rw [ha] at q
      cases q
      exact .inr ⟨_, vs.toArray, _, z, rfl, rfl, rfl, by rw [List.size_toArray, hi.length]; exact hl, by simpa using rv⟩
    | none =>
      refine .inl (.inr ⟨{ cls := .type "list", data := .seq vs.toArray }, ?_⟩)
      rw [← hH]
      exact if_pos ⟨rfl, by rw [z]; rfl⟩
  have ok : HOk P w H s1.heap := fun b u q => by
    obtain ⟨rfl, _, rfl⟩ := tr b u q
    exact ⟨ha, by rw [List.length_map]; exact hl, vs, _, rv, ha⟩
  obtain ⟨mc, l1, l2⟩ := hlim
  have md : Mod K mg (hidT s1.heap H) := ⟨kin, nsK hm, ⟨mb, nsK hb, hbb⟩, ⟨mc, nsK l1, l2⟩⟩
  have e0 : Env0 P w K mg (hidT s1.heap H) callerA [] s1 H := ⟨rfl, md, fun b o q => of_hidT q, Nat.le_of_eq (hidT_size _ _), trivial, fun b z => absurd (show b ∈ ([] : List Addr) from z) (by simp), ok, .of_eq hg⟩
  refine codeAny_mono ((F _ kin (nsK hm)).run callerA [] s1 H ⟨[.ref a], []⟩ [.ref a] [.ref a] _ _ rfl hr e0 (hbind s1 (.ref a)) (.cons rfl .nil) (hsp H sq)) fun r s' h => ?_
  cases r with
  | error e =>
    obtain ⟨_, _, _, _, _, _, _, _, _, _, _, _, z⟩ := h
    exact z.elim
  | ok fl =>
    cases fl with
    | next => exact h.elim
    | brk => exact h.elim
    | cont => exact h.elim
    | ret u =>
      obtain ⟨v, H', os, bare, un, ok', r', q⟩ := h
      obtain rfl : v = .bl true := q
      obtain rfl : u = Value.bool true := r'
      refine ⟨rfl, OldK.of_keep fun b o z => ?_, os, bare⟩
      cases q : H b with
      | none => exact un.keep b o z q (fun y => absurd (show b ∈ ([] : List Addr) from y) (by simp)) (by simp)
      | some u =>
        obtain ⟨_, _, rfl⟩ := tr b u q
        have q2 := un.frzs b _ _ q
        have g1 := (ok b _ q).1
        have g2 := (ok' b _ q2).1
        rw [z] at g1; cases g1
        exact g2
theorem end_walk {l : PySem.W.OpenLaw} {n k : Nat} {q : Program} {loose : List Str} {XP : (Str → Option Value) → Heap → Prop} {YP : World → Heap → Prop} {d : DefRec} {K : Params → PySem.W.Frag} {sp : World → Sp} {x : Str}
    (hn : l.most = some n) (hn2 : n ≤ sizeLine) (hdf : d.params.defaults = []) (hr : Room k callerA) (hY : ∀ (w : World) (h : Heap), YP w h → (K w.params).In h)
    (F : ∀ (w : World) (mg : Str → Option Value) (fa : Addr) (h : Heap), (K w.params).In h → h.Ns mainGlobals mg → mg d.name = some (.ref fa) →
      ∃ fd : FuncData, (∀ (s : Shared) (u : Value), BindsTo s fd ⟨[u], []⟩ [(x, u)]) ∧ ∀ base : Heap, (K w.params).In base → base.Ns mainGlobals mg → FnD l.prog w (K w.params) mg base k fa fd [x] (sp w))
    (hsp : ∀ (w : World) (H : Hp) (a : Addr) (ns : List Int), ns.length ≤ n → SqL (K w.params) H a (ns.map V.int) → sp w [.ref a] H (fun v _ => v = .bl true) fun _ _ _ => False) :
    PySem.W.WalkO q loose XP YP l.row.toRowW d [] (fun f vs => PySem.call f vs) := by
  refine Att.attach_callB hn hdf fun w _ s1 mg mb fa _ _ _ _ a vs ns G Y _ _ _ hmg hobj hints hlen _ hg => ?_
  have KX := hY w _ Y
  obtain ⟨fd, hb, hF⟩ := F w mg fa _ KX G.T.g hmg
  exact end_call KX G.T.g G.T.b G.T.builtins G.T.nolimit hg hobj hints (Nat.le_trans hlen hn2) hr hF hb fun H hS => hsp w H a ns hlen hS

/-! ### names of classes and types; isinstance -/
section
variable {X : Cx} {c : Cn X.K} {W : WX} {e a b : Expr} {pos : Pos} {f g : DV}
theorem ev_own {x : Str} (hg : Gl X x) (hm : X.mg x = some (.ref (c.ca x))) (hd : (x == ("__debug__" : Str)) = false := by decide) : EV X c W (.Name x pos) (dC (.fn x)) := ev_const (pe_glob (v := .ref (c.ca x)) hg hm rfl hd) fun _ => .fn x
theorem ev_ty {x : Str} {T : String} (hg : Gl X x) (hm : X.mg x = none) (hv : bootBuiltins x = some (.type T)) (hn : x ≠ "__name__" := by decide) (hd : (x == ("__debug__" : Str)) = false := by decide) : EV X c W (.Name x pos) (dC (.typ T)) :=
  ev_const (pe_bltn (v := .ty T) hg hm hv rfl hn hd) fun _ => .typ T
def UsD : List String := ["NoneType", "bool", "int", "str", "tuple", "list", "dict", "float"]
def TsD : List String := ["int", "bool", "tuple", "list", "str", "dict", "float"]
def isiB (U T : String) : Bool := U == T || (U == "bool" && T == "int")
def D.tn : D → Option String
  | .non => some "NoneType"
  | .bl _ => some "bool"
  | .int _ => some "int"
  | .str _ => some "str"
  | .tup _ => some "tuple"
  | .lst _ => some "list"
  | .ro _ => some "list"
  | .dct => some "dict"
  | .flt _ => some "float"
  | _ => none
def D.cn : D → Option Str
  | .obj C _ => some C
  | _ => none
def kt1 (Cs : List Str) (d : D) (T : String) : Option Bool :=
  if TsD.contains T = true then
    match d.tn with
    | some U => some (isiB U T)
    | none => match d.cn with
      | some C => if C ∈ Cs then some false else none
      | none => none
  else none
def ktC (Cs : List Str) (d : D) (C : Str) : Option Bool :=
  if C ∈ Cs then
    match d.tn with
    | some U => some false
    | none => match d.cn with
      | some C' => if C' ∈ Cs then some (decide (C' = C)) else none
      | none => none
  else none
def ktT (Cs : List Str) (d : D) : List D → Option Bool
  | [] => some false
  | .typ T :: r => match kt1 Cs d T with
    | some true => (if (r.all fun z => z matches .typ _) = true then some true else none)
    | some false => ktT Cs d r
    | none => none
  | _ => none
def kt (Cs : List Str) (d e : D) : Option Bool := match e with
  | .typ T => kt1 Cs d T
  | .fn C => ktC Cs d C
  | .tup (e :: es) => ktT Cs d (e :: es)
  | _ => none
structure KtF (K : PySem.W.Frag) (ca : Str → Addr) (Cs : List Str) : Prop where
  bc : ∀ C ∈ Cs, ∀ U ∈ UsD, PySem.W.kitOne K (.type U) (.ref (ca C)) = some false
  cb : ∀ C ∈ Cs, ∀ T ∈ TsD, PySem.W.kitOne K (.ref (ca C)) (.type T) = some false
  cc : ∀ C ∈ Cs, ∀ C' ∈ Cs, PySem.W.kitOne K (.ref (ca C')) (.ref (ca C)) = some (decide (C' = C))
theorem kit_bb (K : PySem.W.Frag) : ∀ U ∈ UsD, ∀ T ∈ TsD, PySem.W.kitOne K (.type U) (.type T) = some (isiB U T) := by
  intro U hU T hT
  simp only [UsD, List.mem_cons, List.mem_nil_iff, or_false] at hU
  simp only [TsD, List.mem_cons, List.mem_nil_iff, or_false] at hT
  rcases hU with rfl | rfl | rfl | rfl | rfl | rfl | rfl | rfl <;> rcases hT with rfl | rfl | rfl | rfl | rfl | rfl | rfl <;> rfl
theorem tn_mem {d : D} {U : String} (h : d.tn = some U) : U ∈ UsD := by
  cases d <;> simp only [D.tn, Option.some.injEq] at h <;> first | (subst h; simp [UsD]) | (cases h)
theorem tn_ty {K : PySem.W.Frag} (c : Cn K) {d : D} {U : String} (h : d.tn = some U) : d.ty c = some (.type U) := by
  cases d <;> simp only [D.tn, Option.some.injEq] at h <;> first | (subst h; rfl) | (cases h)
theorem cn_ty {K : PySem.W.Frag} (c : Cn K) {d : D} {C : Str} (h : d.cn = some C) : d.ty c = some (.ref (c.ca C)) := by
  cases d <;> simp only [D.cn, Option.some.injEq] at h <;> first | (subst h; rfl) | (cases h)
theorem kt1_ok {K : PySem.W.Frag} {c : Cn K} {Cs : List Str} (h : KtF K c.ca Cs) {d : D} {T : String} {b : Bool} (e : kt1 Cs d T = some b) : ∃ t, d.ty c = some t ∧ PySem.W.kitOne K t (.type T) = some b := by
  unfold kt1 at e
  split at e
  · rename_i hT
    have hT' : T ∈ TsD := by simpa using hT
    split at e
    · rename_i U hU
      exact ⟨_, tn_ty c hU, e ▸ kit_bb K U (tn_mem hU) T hT'⟩
    · split at e
      · rename_i C hC
        split at e
        · rename_i m
          exact ⟨_, cn_ty c hC, e ▸ h.cb C m T hT'⟩
        · cases e
      · cases e
  · cases e
theorem ktC_ok {K : PySem.W.Frag} {c : Cn K} {Cs : List Str} (h : KtF K c.ca Cs) {d : D} {C : Str} {b : Bool} (e : ktC Cs d C = some b) : ∃ t, d.ty c = some t ∧ PySem.W.kitOne K t (.ref (c.ca C)) = some b := by
  unfold ktC at e
  split at e
  · rename_i hm
    split at e
    · rename_i U hU
      exact ⟨_, tn_ty c hU, e ▸ h.bc C hm U (tn_mem hU)⟩
    · split at e
      · rename_i C' hC
        split at e
        · rename_i m
          exact ⟨_, cn_ty c hC, e ▸ h.cc C hm C' m⟩
        · cases e
      · cases e
  · cases e
theorem typs_of : ∀ {r : List D}, (r.all fun z => z matches .typ _) = true → ∃ Ts : List String, r = Ts.map D.typ
  | [], _ => ⟨[], rfl⟩
  | z :: r, h => by
    rw [List.all_cons, Bool.and_eq_true] at h
    obtain ⟨Ts, e⟩ := typs_of h.2
    cases z with
    | typ T => exact ⟨T :: Ts, by rw [e]; rfl⟩
    | _ => exact absurd h.1 (by simp)
theorem ktT_ok {K : PySem.W.Frag} {c : Cn K} {Cs : List Str} (h : KtF K c.ca Cs) {d : D} {t : Value} (ht : d.ty c = some t) : ∀ {es : List D} {b : Bool}, ktT Cs d es = some b → ∃ Ts : List String, es = Ts.map D.typ ∧ PySem.W.kitAny K t (Ts.map Value.type) = some b
  | [], b, e => ⟨[], rfl, e⟩
  | .typ T :: r, b, e => by
    unfold ktT at e
    split at e
    · rename_i q
      split at e
      · rename_i q2
        obtain ⟨Ts, e2⟩ := typs_of q2
        obtain ⟨t', h1, h2⟩ := kt1_ok h q
        rw [ht] at h1; cases h1
        refine ⟨T :: Ts, by rw [e2]; rfl, ?_⟩
        cases e
        show (match PySem.W.kitOne K t (.type T) with | some true => some true | some false => _ | none => none) = _
        rw [h2]
      · cases e
    · rename_i q
      obtain ⟨t', h1, h2⟩ := kt1_ok h q
      rw [ht] at h1; cases h1
      obtain ⟨Ts, e2, e3⟩ := ktT_ok h ht e
      refine ⟨T :: Ts, by rw [e2]; rfl, ?_⟩
      show (match PySem.W.kitOne K t (.type T) with | some true => some true | some false => _ | none => none) = _
      rw [h2]
      exact e3
    · cases e
theorem kt_ok {K : PySem.W.Frag} {c : Cn K} {Cs : List Str} (h : KtF K c.ca Cs) : KtOk c (kt Cs) := by
  intro d e b q
  unfold kt at q
  split at q
  · obtain ⟨t, h1, h2⟩ := kt1_ok h q
    exact ⟨t, h1, .inl ⟨_, rfl, h2⟩⟩
  · obtain ⟨t, h1, h2⟩ := ktC_ok h q
    exact ⟨t, h1, .inr (.inl ⟨_, rfl, h2⟩)⟩
  · rename_i z r
    have hd : ∃ t, d.ty c = some t := by
      cases z with
      | typ T =>
        unfold ktT at q
        split at q
        · rename_i q2; obtain ⟨t, h1, _⟩ := kt1_ok h q2; exact ⟨t, h1⟩
        · rename_i q2; obtain ⟨t, h1, _⟩ := kt1_ok h q2; exact ⟨t, h1⟩
        · cases q
      | _ => cases q
    obtain ⟨t, ht⟩ := hd
    obtain ⟨Ts, h1, h2⟩ := ktT_ok h ht q
    exact ⟨t, ht, .inr (.inr ⟨Ts, by rw [h1], h2⟩)⟩
  · cases q
end
end Dv

set_option Elab.async false
set_option linter.all false
set_option maxRecDepth 100000
set_option maxHeartbeats 2000000
namespace Dv
open PySem PySem.Spec PyProof.Rows L2
/-! ### repr -/
mutual
theorem okd_noDict : ∀ (n : Nat) (d : D), d.okd n = true → d.py.hasDict = false
  | _, .non, _ => by simp [D.py, PyData.hasDict]
  | _, .bl _, _ => by simp [D.py, PyData.hasDict]
  | _, .int _, _ => by simp [D.py, PyData.hasDict]
  | _, .str x, h => by simp [D.py, PyData.hasDict]
  | n + 1, .tup ds, h => by
    have q := okdL_noDict n ds (by simpa [D.okd] using h)
    simp only [D.py, PyData.hasDict]; exact q
  | n + 1, .lst ds, h => by
    have q := okdL_noDict n ds (by simpa [D.okd] using h)
    simp only [D.py, PyData.hasDict]; exact q
  | n + 1, .ro ds, h => by
    have q := okdL_noDict n ds (by simpa [D.okd] using h)
    simp only [D.py, PyData.hasDict]; exact q
  | 0, .tup ds, h => by simp [D.okd] at h
  | 0, .lst ds, h => by simp [D.okd] at h
  | 0, .ro ds, h => by simp [D.okd] at h
  | _, .obj _ _, h => by simp [D.okd] at h
  | _, .fn _, h => by simp [D.okd] at h
  | _, .typ _, h => by simp [D.okd] at h
  | _, .drw, h => by simp [D.okd] at h
  | _, .opq _, h => by simp [D.okd] at h
  | _, .lam _ _, h => by simp [D.okd] at h
  | _, .xcp _ _, h => by simp [D.okd] at h
  | _, .dct, h => by simp [D.okd] at h
  | _, .flt _, h => by simp [D.okd] at h
theorem okdL_noDict : ∀ (n : Nat) (ds : List D), okdL n ds = true → PyData.hasDictAll (pyL ds) = false
  | _, [], _ => by simp [pyL, PyData.hasDictAll]
  | n, d :: ds, h => by
    simp only [okdL, Bool.and_eq_true] at h
    have q1 := okd_noDict n d h.1
    have q2 := okdL_noDict n ds h.2
    simp only [pyL, PyData.hasDictAll, q1, q2, Bool.or_self]
end
def rReprD (K : PySem.W.Frag) : List V → Hp → VK → Prop := fun xs H Q => ∃ x d, xs = [x] ∧ Dp K H x d ∧ d.showable = true ∧ d.hasDict = false ∧ d.depth ≤ 60 ∧ d.shown.length ≤ sizeLine ∧ Q (.str d.shown) H
theorem cr_repr {X : Cx} (hg : X.A.guards = some []) (hu : X.A.units + 64 < cLine) : CallR X (.builtin "repr") (rReprD X.K) := by
  intro pins s σ H xs us Q I r h
  obtain ⟨x, d, rfl, hd, h1, h2, h3, h4, q⟩ := h
  obtain ⟨u, rfl, ru⟩ := vals1 r
  cases hd with
  | non =>
    obtain rfl : u = Value.none := ru
    exact PySem.P.repr_of_none ⟨.str _, H, I.tok _, ⟨_, rfl⟩, q⟩
  | bl b =>
    obtain rfl : u = Value.bool b := ru
    exact PySem.P.repr_of_bool ⟨.str _, H, I.tok _, ⟨_, rfl⟩, q⟩
  | int i =>
    obtain ⟨t, rfl⟩ := ru
    exact PySem.P.repr_of_int (by simpa [PyData.showable] using h1) ⟨.str _, H, I.tok _, ⟨_, rfl⟩, q⟩
  | str x =>
    obtain ⟨t, rfl⟩ := ru
    exact PySem.P.repr_of_str (⟨.str _, H, I.tok _, ⟨_, rfl⟩, q⟩) h4
  | lst h a =>
    have hd' := Dp.lst h a
    obtain ⟨as, rd⟩ := Dp.reads I _ _ _ hd' ru
    obtain rfl : u = Value.ref _ := ru
    exact repr_of_reads' rd h1 (PyData.noDict_hsm h2) hg (by omega) (fun _ _ e => e) (fun h' u tk hk => ⟨.str _, H, I.kept hk, ⟨_, rfl⟩, q⟩) h4
  | tup h a =>
    have hd' := Dp.tup h a
    obtain ⟨as, rd⟩ := Dp.reads I _ _ _ hd' ru
    obtain rfl : u = Value.ref _ := ru
    exact repr_of_reads' rd h1 (PyData.noDict_hsm h2) hg (by omega) (fun _ _ e => e) (fun h' u tk hk => ⟨.str _, H, I.kept hk, ⟨_, rfl⟩, q⟩) h4
def dRepr : D → (Rv → Prop) → Prop := fun d k => (d.okd 60 = true ∧ d.py.showable = true ∧ d.py.shown.length ≤ sizeLine) ∧ k (.val (.str d.py.shown))
section
variable {X : Cx} {c : Cn X.K} {W : WX} {e a b : Expr} {pos : Pos} {f g : DV}
theorem cd_repr : CallD c (rReprD X.K) (on1 dRepr) := by
  refine calld1 (fun d k k' hk q => ⟨q.1, hk _ q.2⟩) fun B H v d Q k p i q K => ?_
  exact ⟨_, _, rfl, i.dp p.bh q.1.1, q.1.2.1, okd_noDict 60 d q.1.1, (okd_lay 60 d q.1.1).2, q.1.2.2, K _ B H _ (Step.refl p) (rv_val (.str _)) q.2⟩
/-- == of texts -/
def dEqS : D → D → (Bool → Prop) → Prop
  | .str x, .str y, k => k (decide (x = y))
  | _, _, _ => False
theorem opc_eqS : OpC c rEq dEqS := by
  refine ⟨fun d e k k' hk q => ?_, ?_⟩
  · unfold dEqS at q ⊢
    split at q
    · exact hk _ q
    · exact q
  · intro B H x y d e Q k p hx hy q K
    unfold dEqS at q
    split at q
    · cases hx; cases hy
      refine ⟨rfl, ?_⟩
      rw [show decide (V.str _ = V.str _) = decide (_ = _) from decide_eq_decide.mpr ⟨fun z => V.str.inj z, fun z => by rw [z]⟩]
      exact K _ q
    · exact q.elim
theorem ev_eqS (ha : EV X c W a f) (hb : EV X c W b g) : EV X c W (.Compare a [.Eq] [b] pos) (bV (cBin f g dEqS)) := ev_cmp op_eq opc_eqS ha hb (nomark _)
theorem eb_eqS (ha : EV X c W a f) (hb : EV X c W b g) : EB X c W (.Compare a [.Eq] [b] pos) (cBin f g dEqS) := eb_cmp op_eq opc_eqS ha hb (nomark _)
end
/-! ### the draw is begun -/
def c0 (K : PySem.W.Frag) (ca : Str → Addr) (L : LamP) : Cn K := { ca := ca, dd := 0, lm := L.lm, mu := L.mu, inv := invL L, loc := fun _ _ h h2 i => i.loc h h2, dm := fun H a i m => by obtain ⟨ps, e⟩ := i.dm m; rw [e]; exact fun z => nomatch z }
def spB (K : PySem.W.Frag) (ca : Str → Addr) (L : LamP) (o : Bool) : Sp := fun vs H Q E => ∃ (B : Hp) (a : Addr) (ns : List Int), Pre (c0 K ca L) B H ∧ vs = [.ref a] ∧ SqL K B a (ns.map .int) ∧ ns.length ≤ 63 ∧
  ∀ (P : DrawP) (H' : Hp) (ls : List Int), P.o = o → Same B H' → B P.dd = none → B P.la = none → B P.cl = none → P.dd ≠ P.la → P.dd ≠ P.cl → P.la ≠ P.cl → DrIs P H' ls 0 0 → invL L H' → Q (.ref P.dd) H'
theorem merge_kv (P : DrawP) (r t : Int) : mergeK [] (kvD P r t) = kvD P r t := by
  have a1 : ¬ ("large" : Str) = "rest" := by decide +kernel
  have a2 : ¬ ("large" : Str) = "cells" := by decide +kernel
  have a3 : ¬ ("large" : Str) = "turn" := by decide +kernel
  have a4 : ¬ ("rest" : Str) = "cells" := by decide +kernel
  have a5 : ¬ ("rest" : Str) = "turn" := by decide +kernel
  have a6 : ¬ ("cells" : Str) = "turn" := by decide +kernel
  have a7 : ¬ ("cells" : Str) = "rest" := by decide +kernel
  unfold kvD
  cases P.o <;> simp [mergeK, putK, a1, a2, a3, a4, a5, a6, a7]
section
variable {X : Cx} {ca : Str → Addr} {L : LamP} {W : WX} {e : Expr} {pos p1 p2 p3 p4 p5 p6 p7 dp : Pos} {f2 : DR} {f1 : DS} {k1 k2 k3 k4 k5 k6 k7 : Nat} {st1 : Stmt}
theorem int_all {K : PySem.W.Frag} {c : Cn K} {B : Hp} {vs : List V} {ds : List D} (h : IsL c B vs ds) (hi : ∀ d ∈ ds, ∃ n, d = .int n) : ∃ ls : List Int, vs = ls.map .int := by
  induction vs generalizing ds with
  | nil => exact ⟨[], rfl⟩
  | cons v vs ih =>
    cases h with
    | cons r t =>
      obtain ⟨n, rfl⟩ := hi _ List.mem_cons_self
      cases r
      obtain ⟨ls, e⟩ := ih t fun d hd => hi d (List.mem_cons_of_mem _ hd)
      exact ⟨n :: ls, by rw [e]; rfl⟩
/-- what the two statements must give: all numbers -/
def AllI (ds : List D) : Prop := ∀ d ∈ ds, ∃ n, d = .int n
theorem begun_end {Q : VK} {B0 H0 B H : Hp} {σ : L2.St} {ρ : Sl} {ds : List D} {E0 : Exn → Prop} (r : Rep (c0 X.K ca L) H0 B0 B H σ ρ) (h1 : ρ[1]? = some (some (.own ds))) (hd : AllI ds) (hE : ∀ x, E0 x → ∀ Bx Hx, XK (c0 X.K ca L) W Bx Hx x) (mn : Mn f2) (hq : f2 (viewN ρ) (fun rv => ∃ cs, rv = .new cs ∧ AllI cs) E0) (o : Bool)
    (kq : ∀ (P : DrawP) (H' : Hp) (ls : List Int), P.o = o → Same B0 H' → B0 P.dd = none → B0 P.la = none → B0 P.cl = none → P.dd ≠ P.la → P.dd ≠ P.cl → P.la ≠ P.cl → DrIs P H' ls 0 0 → invL L H' → Q (.ref P.dd) H') :
    ∃ la, σ[1]? = some (some (.ref la)) ∧ ∀ p, H p = none → (∀ Q' : VK, (∀ cl B1 H1 cs, (Q' (.ref cl) H1 ↔ Q' (.ref cl) H1) → H1 p = some (.dK []) → (∀ P : DrawP, P = ⟨p, la, cl, cs, o⟩ → Q (.ref p) (upd H1 p (.dK (mergeK [] (kvD P 0 0))))) → Step (c0 X.K ca L) B (upd H p (.dK [])) B1 H1 → Q' (.ref cl) H1) → tR (c0 X.K ca L) W f2 σ (upd H p (.dK [])) Q') := by
  obtain ⟨la, va, e1, e2, e3, e4, e5⟩ := r.sl 1 _ h1
  refine ⟨la, e1, fun p hp Q' hQ => ?_⟩
  have s1 := Step.lay r.pre hp (.dK [])
  refine ⟨B, viewN ρ, s1.pre, r.viewN, mn _ _ _ _ _ (fun rv hv v B1 H1 s2 ro => ?_) (fun x hx => hE x hx _ _) hq⟩
  obtain ⟨cs, rfl, hc⟩ := hv
  obtain ⟨cl, vc, rfl, g1, g2, g3, g4⟩ := ro
  obtain ⟨li, rfl⟩ := int_all e3 hd
  obtain ⟨ci, rfl⟩ := int_all g2 hc
  have npl : p ≠ la := fun z => by rw [z, e2] at hp; cases hp
  have hla : (upd H p (.dK [])) la = some (.lst (li.map .int)) := by rw [upd_ne npl.symm]; exact e2
  have npc : p ≠ cl := fun z => by rw [← z, upd_same] at g4; cases g4
  have nlc : la ≠ cl := fun z => by rw [← z, hla] at g4; cases g4
  have h2p : H1 p = some (.dK []) := s2.out p _ upd_same (r.pre.nmu hp) (fun _ z => nomatch z)
  have h2l : H1 la = some (.lst (li.map .int)) := s2.out la _ hla (fun z => by obtain ⟨ps, z⟩ := (s1.pre.inv : invL L _).dm z; rw [hla] at z; cases z) (fun _ z => nomatch z)
  have bp : B p = none := r.pre.bnone hp
  have b0 : ∀ {a}, B a = none → B0 a = none := fun {a} z => by
    cases q : B0 a with
    | none => rfl
    | some o => rw [r.st.b a o q] at z; cases z
  refine hQ cl B1 H1 ci Iff.rfl h2p (fun P hP => ?_) s2
  subst hP
  refine kq ⟨p, la, cl, ci, o⟩ _ li rfl (fun a oo z => ?_) (b0 bp) (b0 e4) (b0 ?_) npl npc nlc ⟨?_, ?_, ?_⟩ ((s2.inv : invL L _).upd h2p nk_dK (fun ps z => nomatch z) fun ob w z => nomatch z)
  · have nb : a ≠ p := fun y => by rw [y, b0 bp] at z; cases z
    rw [upd_ne nb]
    exact s2.bh a oo (s2.b a oo (r.st.b a oo z))
  · cases q : B cl with
    | none => rfl
    | some oo => rw [s2.b cl oo q] at g3; cases g3
  · rw [upd_same, merge_kv]
  · show (upd H1 p _) la = _
    rw [upd_ne npl.symm]; exact h2l
  · show (upd H1 p _) cl = _
    rw [upd_ne npc.symm]; exact g1
theorem begun0 (hv : PE X (.Name "large" p1) (tVar 1)) (hc : ER X (c0 X.K ca L) W e f2) (h1 : SS X (c0 X.K ca L) W st1 f1) :
    PSs X [st1, .Return (some (.Dict [some (.Constant (.str "large") k1 p2), some (.Constant (.str "rest") k2 p3), some (.Constant (.str "cells") k3 p4), some (.Constant (.str "turn") k4 p5)] [.Name "large" p1, .Constant (.int 0) k5 p6, e, .Constant (.int 0) k6 p7] dp)) pos]
      (tSeq (tS (c0 X.K ca L) W f1) (tRet (tDisp [(tC (.str "large"), tVar 1), (tC (.str "rest"), tC (.int 0)), (tC (.str "cells"), tR (c0 X.K ca L) W f2), (tC (.str "turn"), tC (.int 0))]))) :=
  pss_cons h1.ps (pss_one (ps_ret (pe_disp (pps_cons pe_str hv (pps_cons pe_str pe_int (pps_cons pe_str hc.pe (pps_cons pe_str pe_int pps_nil)))) rfl rfl (by simp) (by simp))))
theorem begun1 (hv : PE X (.Name "large" p1) (tVar 1)) (hc : ER X (c0 X.K ca L) W e f2) (h1 : SS X (c0 X.K ca L) W st1 f1) :
    PSs X [st1, .Return (some (.Dict [some (.Constant (.str "large") k1 p2), some (.Constant (.str "cells") k3 p4), some (.Constant (.str "rest") k2 p3), some (.Constant (.str "turn") k4 p5)] [.Name "large" p1, e, .Constant (.int 0) k5 p6, .Constant (.int 0) k6 p7] dp)) pos]
      (tSeq (tS (c0 X.K ca L) W f1) (tRet (tDisp [(tC (.str "large"), tVar 1), (tC (.str "cells"), tR (c0 X.K ca L) W f2), (tC (.str "rest"), tC (.int 0)), (tC (.str "turn"), tC (.int 0))]))) :=
  pss_cons h1.ps (pss_one (ps_ret (pe_disp (pps_cons pe_str hv (pps_cons pe_str hc.pe (pps_cons pe_str pe_int (pps_cons pe_str pe_int pps_nil)))) rfl rfl (by simp) (by simp))))
/-- what the comprehensions of it must do -/
def BegOk (n : Nat) (f1 : DS) (f2 : DR) : Prop := ∀ ns : List Int, ns.length ≤ 63 → f1 (some (.val (.ro (ns.map .int))) :: List.replicate n none) ⟨fun ρ => ∃ ds, ρ[1]? = some (some (.own ds)) ∧ AllI ds ∧ f2 (viewN ρ) (fun rv => ∃ cs, rv = .new cs ∧ AllI cs) (fun _ => False), fun _ => False, fun _ => False, fun _ => False⟩ (fun _ => False)
theorem begun_sem {Q : VK} {B H : Hp} {a : Addr} {ns : List Int} {Dn : Ends} {N : List Str} {n : Nat} (hN : N.length = n + 1) (hQ : Dn.rt = Q) (mn1 : MnS f1) (mn2 : Mn f2) (ok : BegOk n f1 f2) (p : Pre (c0 X.K ca L) B H) (hs : SqL X.K B a (ns.map .int)) (hl : ns.length ≤ 63) (o : Bool)
    (kq : ∀ (P : DrawP) (H' : Hp) (ls : List Int), P.o = o → Same B H' → B P.dd = none → B P.la = none → B P.cl = none → P.dd ≠ P.la → P.dd ≠ P.cl → P.la ≠ P.cl → DrIs P H' ls 0 0 → invL L H' → Q (.ref P.dd) H') :
    tSeq (tS (c0 X.K ca L) W f1) (tRet (tDisp (if o = true then [(tC (.str "large"), tVar 1), (tC (.str "cells"), tR (c0 X.K ca L) W f2), (tC (.str "rest"), tC (.int 0)), (tC (.str "turn"), tC (.int 0))] else [(tC (.str "large"), tVar 1), (tC (.str "rest"), tC (.int 0)), (tC (.str "cells"), tR (c0 X.K ca L) W f2), (tC (.str "turn"), tC (.int 0))]))) Dn (L2.start N [.ref a]) H := by
  have il : ∀ ns : List Int, IsL (c0 X.K ca L) B (ns.map V.int) (ns.map D.int) := fun ns => by
    induction ns with
    | nil => exact .nil
    | cons n ns ih => exact .cons (.int n) ih
  have hi : IsL (c0 X.K ca L) B [V.ref a] [.ro (ns.map .int)] := .cons (.ro hs (il ns)) .nil
  have r0 := rep_start (N := N) p hi (by rw [hN]; exact Nat.succ_le_succ (Nat.zero_le n))
  have hst : startD N.length [D.ro (ns.map .int)] = some (.val (.ro (ns.map .int))) :: List.replicate n none := by rw [hN]; rfl
  rw [hst] at r0
  refine ⟨H, B, B, _, r0, mn1 _ ⟨fun ρ => ∃ ds, ρ[1]? = some (some (.own ds)) ∧ AllI ds ∧ f2 (viewN ρ) (fun rv => ∃ cs, rv = .new cs ∧ AllI cs) (fun _ => False), fun _ => False, fun _ => False, fun _ => False⟩ _ _ _ ⟨fun ρ ⟨ds, g1, g2, g3⟩ σ' B' H' r' _ => ?_, fun _ z => z.elim, fun _ z => z.elim, fun _ z => z.elim⟩ (fun _ z => z.elim) (ok ns hl)⟩
  obtain ⟨la, e1, fin⟩ := begun_end (W := W) (Q := Q) r' g1 g2 (fun _ z => z.elim) mn2 g3 o kq
  show tDisp _ σ' H' Dn.rt
  rw [hQ]
  cases o
  · intro q hq
    refine ⟨_, e1, ?_⟩
    refine fin q hq _ fun cl B1 H1 cs _ k1 k2 s2 => ?_
    exact ⟨k1, kvD ⟨q, la, cl, cs, false⟩ 0 0, rfl, by simp [kvD], k2 _ rfl⟩
  · intro q hq
    refine ⟨_, e1, ?_⟩
    refine fin q hq _ fun cl B1 H1 cs _ k1 k2 s2 => ?_
    exact ⟨k1, kvD ⟨q, la, cl, cs, true⟩ 0 0, rfl, by simp [kvD], k2 _ rfl⟩
end
/-- the contract of _law_begun -/
theorem begun_fn {P : Program} {w : World} {K : PySem.W.Frag} {mg : Str → Option Value} {base : Heap} {ca : Str → Addr} {L : LamP} {x : Str} {st : Stmt} {f : Addr} {fd : FuncData} {N : List Str} {k n : Nat} {ps : List Str} (hp : ps.length = 1) (fu : Fun K x x st f fd) (S : FnScope N ps (defScope st)) (hN : N.length = n + 1) (o : Bool) {f1 : DS} {f2 : DR} (ok : BegOk n f1 f2)
    (hbody : ∀ (cdv : Value) (A : Around) (outer : List Env) (s : Shared) (H : Hp) (E : L2.XK), Fm (FX P w K mg base N x st f cdv A outer s H E) (FW E) k → MnS f1 ∧ Mn f2 ∧ PSs (FX P w K mg base N x st f cdv A outer s H E) (defBody st)
      (tSeq (tS (c0 K ca L) (FW E) f1) (tRet (tDisp (if o = true then [(tC (.str "large"), tVar 1), (tC (.str "cells"), tR (c0 K ca L) (FW E) f2), (tC (.str "rest"), tC (.int 0)), (tC (.str "turn"), tC (.int 0))] else [(tC (.str "large"), tVar 1), (tC (.str "rest"), tC (.int 0)), (tC (.str "cells"), tR (c0 K ca L) (FW E) f2), (tC (.str "turn"), tC (.int 0))]))))) :
    FnD P w K mg base (k + 1) f fd ps (spB K ca L o) := by
  refine fnd_of fu S (fun vs H Q E ⟨B, a, ns, _, e, _⟩ => by rw [e, hp]; rfl) fun cdv A outer s H vs Q E fm ⟨B, a, ns, p, e, hs, hl, kq⟩ => ?_
  subst e
  obtain ⟨m1, m2, hb⟩ := hbody cdv A outer s H E fm
  exact ⟨_, hb, begun_sem (X := FX P w K mg base N x st f cdv A outer s H E) (W := FW E) hN rfl m1 m2 ok p hs hl o kq⟩
def stN (st : Stmt) (i : Nat) : Stmt := (defBody st).getD i (.Pass ⟨0, 0, 0, 0⟩)
def dVals : Stmt → Nat → Expr
  | .Return (some (.Dict _ vs _)) _, i => vs.getD i (.Constant .none 0 ⟨0, 0, 0, 0⟩)
  | _, _ => .Constant .none 0 ⟨0, 0, 0, 0⟩
theorem begun_gen0 {P : Program} {w : World} {K : PySem.W.Frag} {mg : Str → Option Value} {base : Heap} {ca : Str → Addr} {L : LamP} {x : Str} {st : Stmt} {f : Addr} {fd : FuncData} {N : List Str} {k n k1 k2 k3 k4 k5 k6 : Nat} {ps : List Str} {pos p1 p2 p3 p4 p5 p6 p7 dp : Pos} (hp : ps.length = 1) (fu : Fun K x x st f fd) (S : FnScope N ps (defScope st)) (hN : N.length = n + 1) {f1 : DS} {f2 : DR} (ok : BegOk n f1 f2)
    (hN1 : N[1]? = some ("large" : Str)) (hv : Vis (defScope st) "large") (hst : defBody st = [stN st 0, .Return (some (.Dict [some (.Constant (.str "large") k1 p2), some (.Constant (.str "rest") k2 p3), some (.Constant (.str "cells") k3 p4), some (.Constant (.str "turn") k4 p5)] [.Name "large" p1, .Constant (.int 0) k5 p6, dVals (stN st 1) 2, .Constant (.int 0) k6 p7] dp)) pos])
    (hbody : ∀ (cdv : Value) (A : Around) (outer : List Env) (s : Shared) (H : Hp) (E : L2.XK), Fm (FX P w K mg base N x st f cdv A outer s H E) (FW E) k → SS (FX P w K mg base N x st f cdv A outer s H E) (c0 K ca L) (FW E) (stN st 0) f1 ∧ ER (FX P w K mg base N x st f cdv A outer s H E) (c0 K ca L) (FW E) (dVals (stN st 1) 2) f2) :
    FnD P w K mg base (k + 1) f fd ps (spB K ca L false) :=
  begun_fn hp fu S hN false ok fun cdv A outer s H E m => by
    obtain ⟨h1, h2⟩ := hbody cdv A outer s H E m
    refine ⟨h1.mn, h2.mn, ?_⟩
    rw [hst]
    exact begun0 (pe_var hN1 hv (by decide) (by decide)) h2 h1
theorem begun_gen1 {P : Program} {w : World} {K : PySem.W.Frag} {mg : Str → Option Value} {base : Heap} {ca : Str → Addr} {L : LamP} {x : Str} {st : Stmt} {f : Addr} {fd : FuncData} {N : List Str} {k n k1 k2 k3 k4 k5 k6 : Nat} {ps : List Str} {pos p1 p2 p3 p4 p5 p6 p7 dp : Pos} (hp : ps.length = 1) (fu : Fun K x x st f fd) (S : FnScope N ps (defScope st)) (hN : N.length = n + 1) {f1 : DS} {f2 : DR} (ok : BegOk n f1 f2)
    (hN1 : N[1]? = some ("large" : Str)) (hv : Vis (defScope st) "large") (hst : defBody st = [stN st 0, .Return (some (.Dict [some (.Constant (.str "large") k1 p2), some (.Constant (.str "cells") k3 p4), some (.Constant (.str "rest") k2 p3), some (.Constant (.str "turn") k4 p5)] [.Name "large" p1, dVals (stN st 1) 1, .Constant (.int 0) k5 p6, .Constant (.int 0) k6 p7] dp)) pos])
    (hbody : ∀ (cdv : Value) (A : Around) (outer : List Env) (s : Shared) (H : Hp) (E : L2.XK), Fm (FX P w K mg base N x st f cdv A outer s H E) (FW E) k → SS (FX P w K mg base N x st f cdv A outer s H E) (c0 K ca L) (FW E) (stN st 0) f1 ∧ ER (FX P w K mg base N x st f cdv A outer s H E) (c0 K ca L) (FW E) (dVals (stN st 1) 1) f2) :
    FnD P w K mg base (k + 1) f fd ps (spB K ca L true) :=
  begun_fn hp fu S hN true ok fun cdv A outer s H E m => by
    obtain ⟨h1, h2⟩ := hbody cdv A outer s H E m
    refine ⟨h1.mn, h2.mn, ?_⟩
    rw [hst]
    exact begun1 (pe_var hN1 hv (by decide) (by decide)) h2 h1
end Dv

set_option Elab.async false
set_option linter.all false
set_option maxRecDepth 100000
set_option maxHeartbeats 2000000
namespace Dv
open PySem PySem.Spec PyProof.Rows L2
section
variable {X : Cx} {W : WX} {e : Expr} {es : List Expr} {pos p : Pos} {j k : Nat}
theorem pe_callF {x : Str} {st : Stmt} {f : Addr} {ps : List Str} {sp : Sp} {t : TA} {kV doc pm cdv ct : Value} {an : Option Addr} (m : Fm X W j) (F : FnD X.prog X.w X.K X.mg X.base k f (PySem.W.fnOf x x (defArgs st) (defBody st) (defScope st) .none kV doc pm an cdv ct) ps sp) (hk : k ≤ j) (hg : Gl X x) (hm : X.mg x = some (.ref f)) (kp : PySem.W.keepIn X.K (.ref f) = true) (hb : BindP x st ps [] ps.length id)
    (ha : PA X (e :: es) t) (hdb : (x == ("__debug__" : Str)) = false := by decide) (he : starEach (e :: es) X.env = (false, eval e X.env) :: starEach es X.env := by rfl) (hpl : (backTo pos (starEach es X.env)).any (·.1) = false := by rfl) :
    PE X (.Call (.Name x p) (e :: es) [] pos) (fun σ H Q => t σ H fun vs H1 => sp vs H1 Q fun cls d H' => ∀ σ', W cls d σ' H') := by
  refine ⟨fun pins s σ H Q I h => ?_⟩
  refine wpAny_Call_Name_kw (ld_glob I hg hm ?_ hdb)
  refine PySem.W.callWith_K (h₀ := X.base) I.ok.mod.kin kp (thn (ha.run pos pins s σ H _ I h) fun us s1 ⟨vs, H1, I1, r, q⟩ => ⟨I1.kIn, ?_⟩) he hpl
  have lv : us.length = ps.length := by rw [← r.length]; exact F.len _ _ _ _ q
  have hbt : BindsTo s1 (PySem.W.fnOf x x (defArgs st) (defBody st) (defScope st) .none kV doc pm an cdv ct) ⟨us, []⟩ (ps.zip us) := .of_eq (by
    have z := hb kV doc pm an cdv ct us [] lv rfl
    simpa using z)
  refine wpAny_call (codeAny_mono (run_fnD m F hk (fun cls d σ H h => h σ) I1 hbt r q) fun r s' hq => ?_)
  cases r with
  | error e => exact hq
  | ok fl =>
    cases fl with
    | ret u => exact hq
    | next => exact hq.elim
    | brk => exact hq.elim
    | cont => exact hq.elim
end
theorem pss_ex {X : Cx} {sts : List Stmt} {α : Type} {t : α → TS} (h : ∀ i, PSs X sts (t i)) : PSs X sts (fun D σ H => ∃ i, t i D σ H) := ⟨fun pins s σ H D I ⟨i, q⟩ => (h i).run pins s σ H D I q⟩
def spL (K : PySem.W.Frag) (L : LamP) : Sp := fun vs H Q _ => ∃ (a : Addr) (ns : List Int), vs = [.ref a] ∧ SqL K H a (ns.map V.int) ∧ ns.length ≤ 63 ∧ invL L H ∧ ∀ H', Q (.bl true) H'
/-- the contract of the law -/
theorem law_fn {P : Program} {w : World} {K : PySem.W.Frag} {mg : Str → Option Value} {base : Heap} {ca : Str → Addr} {L : LamP} {x xb xd : Str} {st stb : Stmt} {f fb : Addr} {fd : FuncData} {N ps psb : List Str} {k kb n i : Nat} {o : Bool} {b : DS} {rest : List Stmt} {pd pb ps1 pc pa : Pos} {kVb docb pmb cdvb ctb : Value} {anb : Option Addr}
    (fu : Fun K x x st f fd) (S : FnScope N ps (defScope st)) (hp : ps.length = 1) (hps : psb.length = 1) (hN : N.length = n + 1) (hi : N[i]? = some xd) (hi0 : 0 < i) (hx0 : ∃ x0, N[0]? = some x0 ∧ Vis (defScope st) x0 ∧ (x0 == ("__debug__" : Str)) = false ∧ (x0 == ("__classdict__" : Str)) = false ∧ defBody st = .Assign [.Name xd pd] (.Call (.Name xb pb) [.Name x0 pa] [] pc) ps1 :: rest)
    (hl : Loc (defScope st) xd) (hlf : (defScope st).names.lookup xd = some .local) (hgb : ∀ (cdv : Value) (A : Around) (outer : List Env) (s : Shared) (H : Hp) (E : L2.XK), Gl (FX P w K mg base N x st f cdv A outer s H E) xb) (hdb : (xb == ("__debug__" : Str)) = false)
    (hsw : ∀ (cdv : Value) (A : Around) (outer : List Env) (s : Shared) (H : Hp) (E : L2.XK) (x0 : Str), swapsWith (.Call (.Name xb pb) [.Name x0 pa] [] pc) (some (.Name xd pd)) ps1.line (FX P w K mg base N x st f cdv A outer s H E).env = pure false)
    (hse : ∀ (cdv : Value) (A : Around) (outer : List Env) (s : Shared) (H : Hp) (E : L2.XK) (x0 : Str), starEach [.Name x0 pa] (FX P w K mg base N x st f cdv A outer s H E).env = (false, eval (.Name x0 pa) (FX P w K mg base N x st f cdv A outer s H E).env) :: starEach [] (FX P w K mg base N x st f cdv A outer s H E).env)
    (mb : mg xb = some (.ref fb)) (kpb : PySem.W.keepIn K (.ref fb) = true) (FB : FnD P w K mg base kb fb (PySem.W.fnOf xb xb (defArgs stb) (defBody stb) (defScope stb) .none kVb docb pmb anb cdvb ctb) psb (spB K ca L o)) (hkb : kb ≤ k) (hbb : BindP xb stb psb [] psb.length id)
    (hrest : ∀ (cdv : Value) (A : Around) (outer : List Env) (s : Shared) (H : Hp) (E : L2.XK), Fm (FX P w K mg base N x st f cdv A outer s H E) (FW E) k → ∀ Pd : DrawP, SB (FX P w K mg base N x st f cdv A outer s H E) (cD K ca L Pd) (FW E) rest b)
    (hF : ∀ ns : List Int, ns.length ≤ 63 → b ((some (.val (.ro (ns.map .int))) :: List.replicate n none).set i (some (.val .drw))) ⟨fun _ => False, fun r => r = .val (.bl true), fun _ => False, fun _ => False⟩ (fun _ => False)) :
    FnD P w K mg base (k + 1) f fd ps (spL K L) := by
  refine fnd_of fu S (fun vs H Q E ⟨a, ns, e, _⟩ => by rw [e, hp]; rfl) fun cdv A outer s H vs Q E m ⟨a, ns, e, hs, hlen, hL, kq⟩ => ?_
  subst e
  obtain ⟨x0, hN0, hv0, hd0, hc0, hbody⟩ := hx0
  have hr := hrest cdv A outer s H E m
  have pv0 : PE (FX P w K mg base N x st f cdv A outer s H E) (.Name x0 pa) (tVar 0) := pe_var hN0 hv0 hd0 hc0
  have call := pe_callF (p := pb) (pos := pc) (st := stb) m FB hkb (hgb cdv A outer s H E) mb kpb hbb (pa_cons pv0 pa_nil (hse cdv A outer s H E x0)) hdb (hse cdv A outer s H E x0) rfl
  have st0 := ps_set (pos' := pd) (pos := ps1) m.nd hi hl call (hsw cdv A outer s H E x0) (.inr hlf)
  refine ⟨_, hbody ▸ pss_cons st0 (pss_ex fun Pd => (hr Pd).ps), ?_⟩
  have h0 : (L2.start N [.ref a])[0]? = some (some (.ref a)) := rfl
  obtain ⟨B, hB1, hB2, hB3⟩ : ∃ B : Hp, Same B H ∧ (∀ b, L.mu b → B b = none) ∧ SqL K B a (ns.map V.int) := by
    classical
    refine ⟨fun b => if L.mu b then none else H b, fun b u z => ?_, fun b m => if_pos m, ?_⟩
    · have z' : (if L.mu b then none else H b) = some u := z
      by_cases m : L.mu b
      · rw [if_pos m] at z'; cases z'
      · rw [if_neg m] at z'; exact z'
    · have nm : ∀ u, H a = some u → (∀ ps, u ≠ .tbl ps) → ¬ L.mu a := fun u e n m => by
        obtain ⟨ps, z⟩ := hL.dm m
        rw [e] at z; exact n ps (Option.some.inj z)
      rcases hs with (h | ⟨o, h⟩) | h
      · exact .inl (.inl ((if_neg (nm _ h fun ps z => nomatch z)).trans h))
      · exact .inl (.inr ⟨o, (if_neg (nm _ h fun ps z => nomatch z)).trans h⟩)
      · exact .inr h
  refine ⟨_, h0, B, a, ns, ⟨hB1, hL, hB2⟩, rfl, hB3, hlen, fun Pd H' ls ho sm z1 z2 z3 n1 n2 n3 dr hL' => ?_⟩
  have p1 : Pre (cD K ca L Pd) B H' := ⟨sm, ⟨⟨n1, n2, n3, ls, 0, 0, dr⟩, hL'⟩, fun b m => by
    rcases m with (rfl | rfl | rfl) | m
    · exact z1
    · exact z2
    · exact z3
    · exact hB2 b m⟩
  have il : ∀ ns : List Int, IsL (cD K ca L Pd) B (ns.map V.int) (ns.map D.int) := fun ns => by
    induction ns with
    | nil => exact .nil
    | cons n ns ih => exact .cons (.int n) ih
  have r0 := rep_start (N := N) p1 (.cons (.ro hB3 (il ns)) .nil) (by rw [hN]; exact Nat.succ_le_succ (Nat.zero_le n))
  have hst : startD N.length [D.ro (ns.map .int)] = some (.val (.ro (ns.map .int))) :: List.replicate n none := by rw [hN]; rfl
  rw [hst] at r0
  have hil : i < N.length := (List.getElem?_eq_some_iff.mp hi).1
  have r1 := r0.setV (i := i) (v := .ref Pd.dd) (d := .drw) .drw
  refine ⟨Pd, H', B, B, _, r1, (hr Pd).mn _ ⟨fun _ => False, fun r => r = .val (.bl true), fun _ => False, fun _ => False⟩ _ (fun _ => False) _ ⟨fun _ z => z.elim, fun r e v B' H2 st ro => ?_, fun _ z => z.elim, fun _ z => z.elim⟩ (fun _ z => z.elim) (hF ns hlen)⟩
  subst e
  cases ro
  exact kq H2
end Dv

set_option Elab.async false
set_option linter.all false
set_option maxRecDepth 100000
set_option maxHeartbeats 2000000
namespace Dv
open PySem PySem.Spec PyProof.Rows L2
theorem Fm.hu {X : Cx} {W : WX} {j : Nat} (m : Fm X W j) : X.A.units + 64 < cLine := m.room.units
theorem Fm.hu1 {X : Cx} {W : WX} {j : Nat} (m : Fm X W j) : X.A.units + 1 < cLine := by have := m.hu; omega
section
variable {X : Cx} {c : Cn X.K} {W : WX} {e a b x : Expr} {es : List Expr} {pos p : Pos} {f g h : DV} {j k : Nat} {l : DL}
/-! ### calls of built-ins, in short -/
theorem er_abs (m : Fm X W j) (hm : X.mg "abs" = none) (ha : EA X c W (e :: es) l) (hg : Gl X "abs" := by rfl) (he : starEach (e :: es) X.env = (false, eval e X.env) :: starEach es X.env := by rfl) (hpl : (backTo pos (starEach es X.env)).any (·.1) = false := by rfl) : ER X c W (.Call (.Name "abs" p) (e :: es) [] pos) (rCall l (on1 (i1 iAbs))) :=
  er_callB call_abs cd_abs hg hm (by decide +kernel) ha (by decide) (by decide) he hpl
theorem er_int (m : Fm X W j) (hm : X.mg "int" = none) (ha : EA X c W (e :: es) l) (hg : Gl X "int" := by rfl) (he : starEach (e :: es) X.env = (false, eval e X.env) :: starEach es X.env := by rfl) (hpl : (backTo pos (starEach es X.env)).any (·.1) = false := by rfl) : ER X c W (.Call (.Name "int" p) (e :: es) [] pos) (rCall l (on1 dInt)) :=
  er_callTy call_int1 cd_int hg hm (by decide +kernel) ha (by decide) (by decide) he hpl
theorem er_max2 (m : Fm X W j) (hm : X.mg "max" = none) (ha : EA X c W (e :: es) l) (hg : Gl X "max" := by rfl) (he : starEach (e :: es) X.env = (false, eval e X.env) :: starEach es X.env := by rfl) (hpl : (backTo pos (starEach es X.env)).any (·.1) = false := by rfl) : ER X c W (.Call (.Name "max" p) (e :: es) [] pos) (rCall l (on2 (i2 iMax))) :=
  er_callB (call_max2 m.calm) cd_i2 hg hm (by decide +kernel) ha (by decide) (by decide) he hpl
theorem er_min2 (m : Fm X W j) (hm : X.mg "min" = none) (ha : EA X c W (e :: es) l) (hg : Gl X "min" := by rfl) (he : starEach (e :: es) X.env = (false, eval e X.env) :: starEach es X.env := by rfl) (hpl : (backTo pos (starEach es X.env)).any (·.1) = false := by rfl) : ER X c W (.Call (.Name "min" p) (e :: es) [] pos) (rCall l (on2 (i2 iMin))) :=
  er_callB (call_min2 m.calm) cd_i2 hg hm (by decide +kernel) ha (by decide) (by decide) he hpl
theorem er_maxL (m : Fm X W j) (hm : X.mg "max" = none) (ha : EA X c W (e :: es) l) (hg : Gl X "max" := by rfl) (he : starEach (e :: es) X.env = (false, eval e X.env) :: starEach es X.env := by rfl) (hpl : (backTo pos (starEach es X.env)).any (·.1) = false := by rfl) : ER X c W (.Call (.Name "max" p) (e :: es) [] pos) (rCall l (on1 dMaxL)) :=
  er_callB (cr_max m.calm) cd_maxL hg hm (by decide +kernel) ha (by decide) (by decide) he hpl
theorem er_minL (m : Fm X W j) (hm : X.mg "min" = none) (ha : EA X c W (e :: es) l) (hg : Gl X "min" := by rfl) (he : starEach (e :: es) X.env = (false, eval e X.env) :: starEach es X.env := by rfl) (hpl : (backTo pos (starEach es X.env)).any (·.1) = false := by rfl) : ER X c W (.Call (.Name "min" p) (e :: es) [] pos) (rCall l (on1 dMinL)) :=
  er_callB (cr_min m.calm) cd_minL hg hm (by decide +kernel) ha (by decide) (by decide) he hpl
theorem er_sum (m : Fm X W j) (hm : X.mg "sum" = none) (ha : EA X c W (e :: es) l) (hg : Gl X "sum" := by rfl) (he : starEach (e :: es) X.env = (false, eval e X.env) :: starEach es X.env := by rfl) (hpl : (backTo pos (starEach es X.env)).any (·.1) = false := by rfl) : ER X c W (.Call (.Name "sum" p) (e :: es) [] pos) (rCall l (on1 dSum)) :=
  er_callB (cr_sum m.calm) cd_sum hg hm (by decide +kernel) ha (by decide) (by decide) he hpl
theorem er_all (m : Fm X W j) (hm : X.mg "all" = none) (ha : EA X c W (e :: es) l) (hg : Gl X "all" := by rfl) (he : starEach (e :: es) X.env = (false, eval e X.env) :: starEach es X.env := by rfl) (hpl : (backTo pos (starEach es X.env)).any (·.1) = false := by rfl) : ER X c W (.Call (.Name "all" p) (e :: es) [] pos) (rCall l (on1 dAll)) :=
  er_callB (cr_all m.calm) cd_all hg hm (by decide +kernel) ha (by decide) (by decide) he hpl
theorem er_any (m : Fm X W j) (hm : X.mg "any" = none) (ha : EA X c W (e :: es) l) (hg : Gl X "any" := by rfl) (he : starEach (e :: es) X.env = (false, eval e X.env) :: starEach es X.env := by rfl) (hpl : (backTo pos (starEach es X.env)).any (·.1) = false := by rfl) : ER X c W (.Call (.Name "any" p) (e :: es) [] pos) (rCall l (on1 dAny)) :=
  er_callB (cr_any m.calm) cd_any hg hm (by decide +kernel) ha (by decide) (by decide) he hpl
theorem er_listOf (m : Fm X W j) (hm : X.mg "list" = none) (ha : EA X c W (e :: es) l) (hg : Gl X "list" := by rfl) (he : starEach (e :: es) X.env = (false, eval e X.env) :: starEach es X.env := by rfl) (hpl : (backTo pos (starEach es X.env)).any (·.1) = false := by rfl) : ER X c W (.Call (.Name "list" p) (e :: es) [] pos) (rCall l (on1 dList)) :=
  er_callTy call_list_of cd_list hg hm (by decide +kernel) ha (by decide) (by decide) he hpl
theorem er_tupleOf (m : Fm X W j) (hm : X.mg "tuple" = none) (ha : EA X c W (e :: es) l) (hg : Gl X "tuple" := by rfl) (he : starEach (e :: es) X.env = (false, eval e X.env) :: starEach es X.env := by rfl) (hpl : (backTo pos (starEach es X.env)).any (·.1) = false := by rfl) : ER X c W (.Call (.Name "tuple" p) (e :: es) [] pos) (rCall l (on1 dTuple)) :=
  er_callTy call_tuple_of cd_tuple hg hm (by decide +kernel) ha (by decide) (by decide) he hpl
theorem er_reprOf (m : Fm X W j) (hm : X.mg "repr" = none) (ha : EA X c W (e :: es) l) (hg : Gl X "repr" := by rfl) (he : starEach (e :: es) X.env = (false, eval e X.env) :: starEach es X.env := by rfl) (hpl : (backTo pos (starEach es X.env)).any (·.1) = false := by rfl) : ER X c W (.Call (.Name "repr" p) (e :: es) [] pos) (rCall l (on1 dRepr)) :=
  er_callB (cr_repr m.gd m.hu) cd_repr hg hm (by decide +kernel) ha (by decide) (by decide) he hpl
theorem er_gcd (m : Fm X W j) (hm : X.mg "gcd" = some (.builtin "math.gcd")) (ha : EA X c W (e :: es) l) (hg : Gl X "gcd" := by rfl) (he : starEach (e :: es) X.env = (false, eval e X.env) :: starEach es X.env := by rfl) (hpl : (backTo pos (starEach es X.env)).any (·.1) = false := by rfl) : ER X c W (.Call (.Name "gcd" p) (e :: es) [] pos) (rCall l (on2 (i2 iGcd))) :=
  er_callM cr_gcd (cd_i2 (g := iGcd)) hg hm ha (by decide) he hpl
theorem er_isi {Cs : List Str} (m : Fm X W j) (hk : KtF X.K c.ca Cs) (hm : X.mg "isinstance" = none) (ha : EA X c W (e :: es) l) (hg : Gl X "isinstance" := by rfl) (he : starEach (e :: es) X.env = (false, eval e X.env) :: starEach es X.env := by rfl) (hpl : (backTo pos (starEach es X.env)).any (·.1) = false := by rfl) : ER X c W (.Call (.Name "isinstance" p) (e :: es) [] pos) (rCall l (on2 (dIsi (kt Cs)))) :=
  er_callB (r := fun xs H Q => rIsi X.K xs H Q ∨ rIsiT X.K xs H Q) (fun pins s σ H xs us Q I r q => q.elim (call_isi pins s σ H xs us Q I r) (call_isiT pins s σ H xs us Q I r)) (cd_isi (kt_ok hk)) hg hm (by decide +kernel) ha (by decide) (by decide) he hpl
/-! ### chains -/
theorem ev_ltlt (ha : EV X c W a f) (hb : EV X c W b g) (hc : EV X c W x h) : EV X c W (.Compare a [.Lt, .Lt] [b, x] pos) (bV (cChain f g h dLt dLt)) := ev_chain opc_I opc_I ha hb hc (pe_chain op_lt op_lt ha.pe hb.pe hc.pe (show lastMarks _ _ = false from nomark x))
theorem ev_ltle (ha : EV X c W a f) (hb : EV X c W b g) (hc : EV X c W x h) : EV X c W (.Compare a [.Lt, .LtE] [b, x] pos) (bV (cChain f g h dLt dLe)) := ev_chain opc_I opc_I ha hb hc (pe_chain op_lt op_le ha.pe hb.pe hc.pe (show lastMarks _ _ = false from nomark x))
theorem ev_lelt (ha : EV X c W a f) (hb : EV X c W b g) (hc : EV X c W x h) : EV X c W (.Compare a [.LtE, .Lt] [b, x] pos) (bV (cChain f g h dLe dLt)) := ev_chain opc_I opc_I ha hb hc (pe_chain op_le op_lt ha.pe hb.pe hc.pe (show lastMarks _ _ = false from nomark x))
theorem ev_lele (ha : EV X c W a f) (hb : EV X c W b g) (hc : EV X c W x h) : EV X c W (.Compare a [.LtE, .LtE] [b, x] pos) (bV (cChain f g h dLe dLe)) := ev_chain opc_I opc_I ha hb hc (pe_chain op_le op_le ha.pe hb.pe hc.pe (show lastMarks _ _ = false from nomark x))
theorem eb_ltlt (ha : EV X c W a f) (hb : EV X c W b g) (hc : EV X c W x h) : EB X c W (.Compare a [.Lt, .Lt] [b, x] pos) (cChain f g h dLt dLt) := eb_chain op_lt op_lt opc_I opc_I ha hb hc (pt_chain op_lt op_lt ha.pe hb.pe hc.pe (show lastMarks _ _ = false from nomark x))
theorem eb_ltle (ha : EV X c W a f) (hb : EV X c W b g) (hc : EV X c W x h) : EB X c W (.Compare a [.Lt, .LtE] [b, x] pos) (cChain f g h dLt dLe) := eb_chain op_lt op_le opc_I opc_I ha hb hc (pt_chain op_lt op_le ha.pe hb.pe hc.pe (show lastMarks _ _ = false from nomark x))
theorem eb_lelt (ha : EV X c W a f) (hb : EV X c W b g) (hc : EV X c W x h) : EB X c W (.Compare a [.LtE, .Lt] [b, x] pos) (cChain f g h dLe dLt) := eb_chain op_le op_lt opc_I opc_I ha hb hc (pt_chain op_le op_lt ha.pe hb.pe hc.pe (show lastMarks _ _ = false from nomark x))
theorem eb_lele (ha : EV X c W a f) (hb : EV X c W b g) (hc : EV X c W x h) : EB X c W (.Compare a [.LtE, .LtE] [b, x] pos) (cChain f g h dLe dLe) := eb_chain op_le op_le opc_I opc_I ha hb hc (pt_chain op_le op_le ha.pe hb.pe hc.pe (show lastMarks _ _ = false from nomark x))
/-- y = a comprehension, y no list of its own -/
theorem setR_ok {f : DR} {i : Nat} (h : ER X c W e f) : MnS (sSetN i (vR f)) ∧ ∀ D σ H, tS c W (sSetN i (vR f)) D σ H → tAsg (tR c W f) (gName i) D σ H := by
  refine ⟨(setN_ok h.v).1, ?_⟩
  rintro D σ H ⟨H0, B0, B, ρ, r, q⟩
  refine ⟨B, _, r.pre, r.viewN, h.mn _ _ _ _ _ (fun rv hd v B1 H1 s ro => ?_) (fun x hx => hx.repN r) q⟩
  obtain ⟨B'', s', sb, is⟩ := ro.freeze r.pre s
  exact hd _ B'' H1 ((r.goN s').setV is) s'.b
end
/-! ### the contract of a def, its reading being its promise -/
def dfS (n : Nat) (b : DS) : DF := fun ds k E => b (startD n ds) ⟨fun _ => k (.val .non), k, fun _ => False, fun _ => False⟩ E
theorem dfS_mn {n : Nat} {b : DS} (h : MnS b) : MnF (dfS n b) := fun ds k k' E E' hk hE q => h _ ⟨fun _ => k (.val .non), k, fun _ => False, fun _ => False⟩ ⟨fun _ => k' (.val .non), k', fun _ => False, fun _ => False⟩ E E' ⟨fun _ => hk _, hk, fun _ z => z, fun _ z => z⟩ hE q
theorem df_gen {P : Program} {w : World} {K : PySem.W.Frag} {mg : Str → Option Value} {base : Heap} {c : Cn K} {x : Str} {st : Stmt} {N ps : List Str} {k : Nat} {b : DS} (hg : mg x = some (.ref (c.ca x))) (fu : ∃ fd, Fun K x x st (c.ca x) fd) (S : FnScope N ps (defScope st)) (hr : Room (k + 1) callerA)
    (hbody : ∀ (cdv : Value) (A : Around) (outer : List Env) (s : Shared) (H : Hp) (E : L2.XK), Fm (FX P w K mg base N x st (c.ca x) cdv A outer s H E) (FW E) k → SB (FX P w K mg base N x st (c.ca x) cdv A outer s H E) c (FW E) (defBody st) b) : Df P w K mg base c (k + 1) x st ps (dfS N.length b) := by
  obtain ⟨fd, fu⟩ := fu
  have mb : MnS b := (hbody .none callerA [] {} (fun _ => none) (fun _ _ _ => False) (fm_of S (hr.deeper _) rfl)).mn
  exact df_of hg fu S (dfS_mn mb) hbody fun ds k E _ q => q
def dmS (C : Str) (n : Nat) (oc : List (Str × D) → Prop) (h : DJ) : DF := fun ds k E => ∀ x, h x (startD n (.opq x :: ds)) (fun fs => oc fs ∧ k (.val (.obj C fs))) E
theorem dm_gen {P : Program} {w : World} {K : PySem.W.Frag} {mg : Str → Option Value} {base : Heap} {c : Cn K} {C q : Str} {st : Stmt} {N ps : List Str} {k : Nat} {h : DJ} {oc : List (Str × D) → Prop} (hg : mg C = some (.ref (c.ca C))) (fu : ∃ fI fd, Mk K (c.ca C) fI ∧ Fun K "__init__" q st fI fd) (S : FnScope N (("self" : Str) :: ps) (defScope st)) (hr : Room (k + 1) callerA)
    (hoc : ∀ fs, oc fs → OwnC K (c.ca C) (fs.map (·.1)))
    (hbody : ∀ (fI : Addr) (cdv : Value) (A : Around) (outer : List Env) (s : Shared) (H : Hp) (E : L2.XK), Fm (FX P w K mg base N q st fI cdv A outer s H E) (FW E) k → IB (FX P w K mg base N q st fI cdv A outer s H E) c (FW E) C (defBody st) h) : Dm P w K mg base c (k + 1) C q st ps (dmS C N.length oc h) := by
  obtain ⟨fI, fd, M, fu⟩ := fu
  have mb := (hbody fI .none callerA [] {} (fun _ => none) (fun _ _ _ => False) (fm_of S (hr.deeper _) rfl)).mn
  refine dm_of hg M fu S (fun ds k k' E E' hk hE z x => mb _ _ _ _ _ _ (fun f ⟨h1, h2⟩ => ⟨h1, hk _ h2⟩) hE (z x)) (hbody fI) fun ds k E x _ z => ?_
  exact mb _ _ _ _ _ _ (fun f ⟨h1, h2⟩ => ⟨hoc f h1, h2⟩) (fun _ z => z) (z x)
end Dv

set_option Elab.async false
set_option linter.all false
set_option maxRecDepth 100000
set_option maxHeartbeats 2000000
namespace Dv
open PySem PySem.Spec PyProof.Rows L2
def caAll (ca : Str → Addr) : List (Str × Addr) → Prop
  | [] => True
  | (x, a) :: r => a = ca x ∧ caAll ca r
theorem caAll_mono {ca cb : Str → Addr} : ∀ {l : List (Str × Addr)}, (∀ p ∈ l, ca p.1 = cb p.1) → caAll ca l → caAll cb l
  | [], _, _ => trivial
  | (x, a) :: r, h, ⟨h1, h2⟩ => ⟨h1.trans (h (x, a) List.mem_cons_self), caAll_mono (fun p hp => h p (List.mem_cons_of_mem _ hp)) h2⟩
theorem exists_ca : ∀ l : List (Str × Addr), (l.map (·.1)).Nodup → ∃ ca : Str → Addr, caAll ca l
  | [], _ => ⟨fun _ => 0, trivial⟩
  | (x, a) :: r, h => by
    rw [List.map_cons, List.nodup_cons] at h
    obtain ⟨ca, hc⟩ := exists_ca r h.2
    refine ⟨fun y => if y = x then a else ca y, by simp, caAll_mono (fun p hp => ?_) hc⟩
    have n : p.1 ≠ x := fun z => h.1 (by rw [← z]; exact List.mem_map.mpr ⟨p, hp, rfl⟩)
    show _ = if p.1 = x then a else ca p.1
    rw [if_neg n]
theorem kitC {K : PySem.W.Frag} {t : Value} {C : Addr} {b : Bool} (h0 : (t == Value.ref C) = false) (h1 : PySem.W.isClsIn K C = true) (h2 : PySem.W.typeIn K (.ref C) = some (.type "type")) (h3 : PySem.W.subIn K t (.ref C) = some b) : PySem.W.kitOne K t (.ref C) = some b := by
  unfold PySem.W.kitOne
  rw [h0, if_neg Bool.false_ne_true]
  unfold PySem.W.kitCls
  have h1' : (PySem.W.clsIn K C).isSome = true := h1
  show (if ((PySem.W.clsIn K C).isSome && PySem.W.typeIn K (.ref C) == some (.type "type")) = true then PySem.W.subIn K t (.ref C) else none) = _
  rw [h1', h2]
  exact h3
theorem kitCB {K : PySem.W.Frag} {C : Addr} {T : String} (hm : PySem.W.kitMeta T = true) (h : PySem.W.mroIn K C (.type T) = some false) : PySem.W.kitOne K (.ref C) (.type T) = some false := by
  unfold PySem.W.kitOne
  have h0 : (Value.ref C == Value.type T) = false := rfl
  rw [h0, if_neg Bool.false_ne_true]
  show (if PySem.W.kitMeta T = true then PySem.W.subIn K (.ref C) (.type T) else none) = _
  rw [if_pos hm]
  exact h
theorem kitCS {K : PySem.W.Frag} {C : Addr} : PySem.W.kitOne K (.ref C) (.ref C) = some true := by
  unfold PySem.W.kitOne
  rw [if_pos (beq_self_eq_true _)]
theorem kitCC {K : PySem.W.Frag} {C C' : Addr} (h1 : PySem.W.isClsIn K C = true) (h2 : PySem.W.typeIn K (.ref C) = some (.type "type")) (hs : PySem.W.mroIn K C (.ref C) = some true) (h : PySem.W.mroIn K C' (.ref C) = some false) : PySem.W.kitOne K (.ref C') (.ref C) = some false := by
  refine kitC ?_ h1 h2 h
  cases q : (Value.ref C' == Value.ref C) with
  | false => rfl
  | true =>
    have e := beq_iff_eq.mp q
    cases e
    rw [hs] at h
    cases h
end Dv

set_option Elab.async false
set_option linter.all false
set_option maxRecDepth 100000
set_option maxHeartbeats 2000000
namespace Dv
open PySem PySem.Spec PyProof.Rows L2
/-! ### readings of loops, by invariants -/
inductive A2 (Pd : D → D → Prop) : List D → List D → Prop
  | nil : A2 Pd [] []
  | cons {d y : D} {ds ys : List D} : Pd d y → A2 Pd ds ys → A2 Pd (d :: ds) (y :: ys)
theorem compD_all {g : DG} {fe : DV} {ρ : View} {Pd : D → D → Prop} {k : List D → Prop} : ∀ (ds acc : List D), (∀ d ∈ ds, ∀ κ : D → Prop, (∀ y, Pd d y → κ y) → g d (toSl ρ) fun ρ' => fe (viewN ρ') κ fun _ => False) → acc.length + ds.length ≤ sizeLine → (∀ ys, A2 Pd ds ys → k (acc ++ ys)) → compD g bYes fe ρ ds acc k
  | [], acc, _, _, hk => by have := hk [] .nil; rw [List.append_nil] at this; exact this
  | d :: ds, acc, h, hl, hk => by
    have hm : ∀ (ρ' : Sl) (κ κ' : D → Prop), True := fun _ _ _ => trivial
    show g d (toSl ρ) fun ρ' => bYes (viewN ρ') (fun b => (b = true → fe (viewN ρ') (fun y => acc.length < sizeLine ∧ compD g bYes fe ρ ds (acc ++ [y]) k) fun _ => False) ∧ (b = false → compD g bYes fe ρ ds acc k)) fun _ => False
    have z := h d List.mem_cons_self (fun y => acc.length < sizeLine ∧ compD g bYes fe ρ ds (acc ++ [y]) k) (fun y py => by
      rw [List.length_cons] at hl
      refine ⟨by omega, compD_all ds (acc ++ [y]) (fun d' h' => h d' (List.mem_cons_of_mem _ h')) (by rw [List.length_append, List.length_singleton]; omega) fun ys a => ?_⟩
      rw [List.append_assoc]
      exact hk (y :: ys) (.cons py a))
    have e : (fun ρ' : Sl => bYes (viewN ρ') (fun b => (b = true → fe (viewN ρ') (fun y => acc.length < sizeLine ∧ compD g bYes fe ρ ds (acc ++ [y]) k) fun _ => False) ∧ (b = false → compD g bYes fe ρ ds acc k)) fun _ => False) = (fun ρ' => fe (viewN ρ') (fun y => acc.length < sizeLine ∧ compD g bYes fe ρ ds (acc ++ [y]) k) fun _ => False) := by
      funext ρ'
      simp [bYes]
    rw [e]
    exact z
theorem A2.map {f : D → D} : ∀ {ds ys : List D}, A2 (fun d y => y = f d) ds ys → ys = ds.map f
  | _, _, .nil => rfl
  | _, _, .cons h t => by rw [h, A2.map t]; rfl
theorem A2.length {Pd : D → D → Prop} : ∀ {ds ys : List D}, A2 Pd ds ys → ys.length = ds.length
  | _, _, .nil => rfl
  | _, _, .cons h t => congrArg (· + 1) (A2.length t)
theorem compD_map {g : DG} {fe : DV} {ρ : View} {k : List D → Prop} (f : D → D) (ds acc : List D) (h : ∀ d ∈ ds, ∀ κ : D → Prop, κ (f d) → g d (toSl ρ) fun ρ' => fe (viewN ρ') κ fun _ => False) (hl : acc.length + ds.length ≤ sizeLine) (hk : k (acc ++ ds.map f)) : compD g bYes fe ρ ds acc k :=
  compD_all (Pd := fun d y => y = f d) ds acc (fun d hd κ hκ => h d hd κ (hκ _ rfl)) hl fun ys a => by rw [a.map]; exact hk
/-- with a test -/
theorem compD_flt {g : DG} {ft : DB} {fe : DV} {ρ : View} {k : List D → Prop} (t : D → Bool) (f : D → D) : ∀ (ds acc : List D), (∀ d ∈ ds, ∀ κ κ' : Prop, ∀ κ1 : D → Prop, (t d = true → κ1 (f d)) → (t d = false → κ') → g d (toSl ρ) fun ρ' => ft (viewN ρ') (fun b => (b = true → fe (viewN ρ') κ1 fun _ => False) ∧ (b = false → κ')) fun _ => False) → acc.length + ds.length ≤ sizeLine → k (acc ++ (ds.filter t).map f) → compD g ft fe ρ ds acc k
  | [], acc, _, _, hk => by simpa [compD] using hk
  | d :: ds, acc, h, hl, hk => by
    show g d (toSl ρ) fun ρ' => ft (viewN ρ') (fun b => (b = true → fe (viewN ρ') (fun y => acc.length < sizeLine ∧ compD g ft fe ρ ds (acc ++ [y]) k) fun _ => False) ∧ (b = false → compD g ft fe ρ ds acc k)) fun _ => False
    rw [List.length_cons] at hl
    refine h d List.mem_cons_self True _ _ (fun ht => ⟨by omega, compD_flt t f ds (acc ++ [f d]) (fun d' h' => h d' (List.mem_cons_of_mem _ h')) (by rw [List.length_append, List.length_singleton]; omega) ?_⟩) fun ht => compD_flt t f ds acc (fun d' h' => h d' (List.mem_cons_of_mem _ h')) (by omega) ?_
    · rw [List.filter_cons_of_pos ht] at hk
      simpa using hk
    · rw [List.filter_cons_of_neg (by rw [ht]; exact Bool.false_ne_true)] at hk
      exact hk
theorem forD_inv {g : DG} {f : DS} {k : Ks} {E : Exn → Prop} (I : List D → Sl → Prop) (h : ∀ d r ρ, I (d :: r) ρ → ∀ κ : Sl → Prop, (∀ ρ2, I r ρ2 → κ ρ2) → g d ρ fun ρ' => f ρ' ⟨κ, k.rt, k.nx, κ⟩ E) (h0 : ∀ ρ, I [] ρ → k.nx ρ) : ∀ ds ρ, I ds ρ → forD g f ds ρ k E
  | [], ρ, i => h0 ρ i
  | d :: ds, ρ, i => h d ds ρ i _ fun ρ2 i2 => forD_inv I h h0 ds ρ2 i2
theorem while_inv {t : DB} {f : DS} {k : Ks} {E : Exn → Prop} (I : Nat → Sl → Prop) (h : ∀ n ρ, I n ρ → ∀ κ : Sl → Prop, (∀ m ρ2, m < n → I m ρ2 → κ ρ2) → t (viewB ρ) (fun b => (b = true → f ρ ⟨κ, k.rt, k.nx, κ⟩ E) ∧ (b = false → k.nx ρ)) E) (n : Nat) (ρ : Sl) (i : I n ρ) : sWhile t f ρ k E := by
  have key : ∀ N m ρ, m < N → I m ρ → whN t f N ρ k E := by
    intro N
    induction N with
    | zero => intro m ρ h; omega
    | succ N ih =>
      intro m ρ hm i
      exact h m ρ i _ fun m2 ρ2 h2 i2 => ih m2 ρ2 (by omega) i2
  exact ⟨n + 1, key (n + 1) n ρ (Nat.lt_succ_self n) i⟩
/-! ### readings in short, for simp -/
theorem gCons_c {g : DG} {h : DGs} {d : D} {r : List D} {ρ : Sl} {k : Sl → Prop} : gCons g h (d :: r) ρ k = g d ρ (fun ρ' => h r ρ' k) :=
  propext ⟨fun ⟨_, _, e, q⟩ => by cases e; exact q, fun q => ⟨_, _, rfl, q⟩⟩
theorem gCons_n {g : DG} {h : DGs} {ρ : Sl} {k : Sl → Prop} : gCons g h [] ρ k = False := propext ⟨fun ⟨_, _, e, q⟩ => (nomatch e), False.elim⟩
theorem gNil_n {ρ : Sl} {k : Sl → Prop} : gNil [] ρ k = k ρ := propext ⟨fun q => q.2, fun q => ⟨rfl, q⟩⟩
theorem gNil_c {d : D} {r : List D} {ρ : Sl} {k : Sl → Prop} : gNil (d :: r) ρ k = False := propext ⟨fun q => (nomatch q.1), False.elim⟩
theorem gTup_t {n : Nat} {h : DGs} {ds : List D} {ρ : Sl} {k : Sl → Prop} : gTup n h (.tup ds) ρ k = (ds.length = n ∧ h ds ρ k) := propext ⟨fun ⟨_, e, q⟩ => by cases e; exact q, fun q => ⟨_, rfl, q⟩⟩
theorem zip2_e {d e : D} {k : List D → Prop} : zip2 [d, e] k = ∃ ds, d.items = some ds ∧ ∃ es, e.items = some es ∧ k (zipD ds es) :=
  propext ⟨fun ⟨_, _, ds, es, q, h1, h2, h3⟩ => by cases q; exact ⟨ds, h1, es, h2, h3⟩, fun ⟨ds, h1, es, h2, h3⟩ => ⟨d, e, ds, es, rfl, h1, h2, h3⟩⟩
theorem enu1_e {d : D} {k : List D → Prop} : enu1 [d] k = ∃ ds, d.items = some ds ∧ k (enuD ds) :=
  propext ⟨fun ⟨_, ds, q, h1, h3⟩ => by cases q; exact ⟨ds, h1, h3⟩, fun ⟨ds, h1, h3⟩ => ⟨d, ds, rfl, h1, h3⟩⟩
theorem compD_ml {α : Type} (h f : α → D) {g : DG} {fe : DV} {ρ : View} {k : List D → Prop} (xs : List α) (acc : List D) (hs : ∀ x ∈ xs, ∀ κ : D → Prop, κ (f x) → g (h x) (toSl ρ) fun ρ' => fe (viewN ρ') κ fun _ => False) (hl : acc.length + xs.length ≤ sizeLine) (hk : k (acc ++ xs.map f)) : compD g bYes fe ρ (xs.map h) acc k := by
  induction xs generalizing acc with
  | nil => simpa [compD] using hk
  | cons x xs ih =>
    rw [List.map_cons]
    rw [List.length_cons] at hl
    have z := hs x List.mem_cons_self (fun y => acc.length < sizeLine ∧ compD g bYes fe ρ (xs.map h) (acc ++ [y]) k) ⟨by omega, ih (acc ++ [f x]) (fun y hy => hs y (List.mem_cons_of_mem _ hy)) (by rw [List.length_append, List.length_singleton]; omega) (by rw [List.append_assoc]; exact hk)⟩
    show g (h x) (toSl ρ) fun ρ' => bYes (viewN ρ') (fun b => (b = true → fe (viewN ρ') (fun y => acc.length < sizeLine ∧ compD g bYes fe ρ (xs.map h) (acc ++ [y]) k) fun _ => False) ∧ (b = false → compD g bYes fe ρ (xs.map h) acc k)) fun _ => False
    have e : (fun ρ' : Sl => bYes (viewN ρ') (fun b => (b = true → fe (viewN ρ') (fun y => acc.length < sizeLine ∧ compD g bYes fe ρ (xs.map h) (acc ++ [y]) k) fun _ => False) ∧ (b = false → compD g bYes fe ρ (xs.map h) acc k)) fun _ => False) = (fun ρ' => fe (viewN ρ') (fun y => acc.length < sizeLine ∧ compD g bYes fe ρ (xs.map h) (acc ++ [y]) k) fun _ => False) := by
      funext ρ'
      simp [bYes]
    rw [e]
    exact z
/-- many answers: each item's answer is one of R -/
inductive A3 {α β : Type} (R : α → β → Prop) : List α → List β → Prop
  | nil : A3 R [] []
  | cons {x : α} {y : β} {xs : List α} {ys : List β} : R x y → A3 R xs ys → A3 R (x :: xs) (y :: ys)
theorem A3.length {α β : Type} {R : α → β → Prop} : ∀ {xs : List α} {ys : List β}, A3 R xs ys → ys.length = xs.length
  | _, _, .nil => rfl
  | _, _, .cons _ t => congrArg (· + 1) (A3.length t)
theorem A3.all {α β : Type} {R : α → β → Prop} {S : β → Prop} (h : ∀ x y, R x y → S y) : ∀ {xs : List α} {ys : List β}, A3 R xs ys → ∀ y ∈ ys, S y
  | _, _, .nil => fun _ hy => absurd hy (by simp)
  | _, _, .cons r t => fun y hy => by
    rcases List.mem_cons.mp hy with e | e
    · exact e ▸ h _ _ r
    · exact A3.all h t y e
theorem compD_mr {α β : Type} (h : α → D) (f : β → D) (R : α → β → Prop) {g : DG} {fe : DV} {ρ : View} {k : List D → Prop} (xs : List α) (acc : List D) (hs : ∀ x ∈ xs, ∀ κ : D → Prop, (∀ y, R x y → κ (f y)) → g (h x) (toSl ρ) fun ρ' => fe (viewN ρ') κ fun _ => False) (hl : acc.length + xs.length ≤ sizeLine) (hk : ∀ ys, A3 R xs ys → k (acc ++ ys.map f)) : compD g bYes fe ρ (xs.map h) acc k := by
  induction xs generalizing acc with
  | nil => simpa [compD] using hk [] .nil
  | cons x xs ih =>
    rw [List.map_cons]
    rw [List.length_cons] at hl
    have z := hs x List.mem_cons_self (fun y => acc.length < sizeLine ∧ compD g bYes fe ρ (xs.map h) (acc ++ [y]) k) fun y hy => ⟨by omega, ih (acc ++ [f y]) (fun y hy => hs y (List.mem_cons_of_mem _ hy)) (by rw [List.length_append, List.length_singleton]; omega) (fun ys a => by rw [List.append_assoc]; exact hk (y :: ys) (.cons hy a))⟩
    show g (h x) (toSl ρ) fun ρ' => bYes (viewN ρ') (fun b => (b = true → fe (viewN ρ') (fun y => acc.length < sizeLine ∧ compD g bYes fe ρ (xs.map h) (acc ++ [y]) k) fun _ => False) ∧ (b = false → compD g bYes fe ρ (xs.map h) acc k)) fun _ => False
    have e : (fun ρ' : Sl => bYes (viewN ρ') (fun b => (b = true → fe (viewN ρ') (fun y => acc.length < sizeLine ∧ compD g bYes fe ρ (xs.map h) (acc ++ [y]) k) fun _ => False) ∧ (b = false → compD g bYes fe ρ (xs.map h) acc k)) fun _ => False) = (fun ρ' => fe (viewN ρ') (fun y => acc.length < sizeLine ∧ compD g bYes fe ρ (xs.map h) (acc ++ [y]) k) fun _ => False) := by
      funext ρ'
      simp [bYes]
    rw [e]
    exact z
theorem forD_ml {α : Type} (h : α → D) {g : DG} {f : DS} {k : Ks} {E : Exn → Prop} (I : List α → Sl → Prop) (hs : ∀ x r ρ, I (x :: r) ρ → ∀ κ : Sl → Prop, (∀ ρ2, I r ρ2 → κ ρ2) → g (h x) ρ fun ρ' => f ρ' ⟨κ, k.rt, k.nx, κ⟩ E) (h0 : ∀ ρ, I [] ρ → k.nx ρ) : ∀ xs ρ, I xs ρ → forD g f (xs.map h) ρ k E
  | [], ρ, i => h0 ρ i
  | x :: xs, ρ, i => hs x xs ρ i _ fun ρ2 i2 => forD_ml h I hs h0 xs ρ2 i2
theorem ints_map {α : Type} (f : α → Int) : ∀ xs : List α, D.ints (xs.map fun x => .int (f x)) = some (xs.map f)
  | [] => rfl
  | x :: xs => by simp only [List.map_cons, D.ints, ints_map f xs, Option.map_some]
theorem bls_map {α : Type} (f : α → Bool) : ∀ xs : List α, D.bls (xs.map fun x => .bl (f x)) = some (xs.map f)
  | [] => rfl
  | x :: xs => by simp only [List.map_cons, D.bls, bls_map f xs, Option.map_some]
theorem zipD_map {α β : Type} (f : α → D) (g : β → D) : ∀ (xs : List α) (ys : List β), zipD (xs.map f) (ys.map g) = (xs.zip ys).map fun p => .tup [f p.1, g p.2]
  | [], _ => by simp [zipD]
  | _ :: _, [] => by simp [zipD]
  | x :: xs, y :: ys => by
    have := zipD_map f g xs ys
    unfold zipD at this ⊢
    simp [this]
theorem rngD_map (n : Nat) : rngD 0 n = (List.range n).map fun i => .int (i : Nat) := by
  unfold rngD
  simp
end Dv
namespace Dv
theorem sCons_seq {f g : DS} {ρ : Sl} {k : Ks} {E : Exn → Prop} (Mid : Sl → Prop) (h1 : ∀ κ : Sl → Prop, (∀ ρ', Mid ρ' → κ ρ') → f ρ ⟨κ, k.rt, k.bk, k.ct⟩ E) (h2 : ∀ ρ', Mid ρ' → g ρ' k E) : sCons f g ρ k E := h1 _ h2
end Dv

set_option Elab.async false
set_option linter.all false
set_option maxRecDepth 100000
set_option maxHeartbeats 2000000
namespace Dv
open PySem PySem.Spec PyProof.Rows L2
/-! ### a lambda is made -/
theorem lamOb_inj {M M' : LamT} {tk tk' : List (Str × Addr)} {pm pm' ctv ctv' : Value} {k k' : Addr} (e : lamOb M tk pm k ctv = lamOb M' tk' pm' k' ctv') : k = k' ∧ M.q = M'.q := by
  have e1 := Data.func.inj (congrArg Obj.data e)
  have e2 := congrArg FuncData.code e1
  have e3 := congrArg FuncData.qualname e1
  exact ⟨Value.ref.inj e2, e3⟩
section
variable {X : Cx} {pins : List (Addr × Obj)} {σ : L2.St} {H : Hp} {s : Shared} {L : LamP}
/-- what stands behind the making: H itself, or the table grown and a code object laid -/
def Grown (L : LamP) (H H1 : Hp) (q : Str) (k : Addr) : Prop := H1 k = some (LamX.CodeO k q) ∧ (∀ a o, H a = some o → ¬ L.mu a → H1 a = some o) ∧ (∀ a, L.mu a → H a ≠ none → H1 a ≠ none) ∧ (∀ a ob u, H1 a = some (.frz ob u) → H a = some (.frz ob u)) ∧ LamX.Tabs L.T H1
theorem lam_new {P c : Addr} {ps : Arguments} {body : Expr} {sc : Scope} {pos : Pos} {E Q : Value → Shared → Prop} (I : Inv X pins σ H s) (TB : LamX.TabB X.base X.mg c P) (hcode : X.env.code = .ref c) (hm : (P, X.env.qual ++ "<lambda>") ∈ L.T) (hu : ∀ p ∈ L.T, p.1 = P → p.2 = X.env.qual ++ "<lambda>")
    (hT : LamX.Tabs L.T H) (hdef : defaultsOf ps X.env = ([], [])) (hfree : ∀ y ∈ sc.names, y.2 = .free → ∃ c, X.env.cells.lookup y.1 = some c)
    (hq : ∀ (f k : Addr) (pm ctv : Value) (H1 : Hp) (s1 : Shared), Grown L H H1 (X.env.qual ++ "<lambda>") k → H1 f = none → Inv X pins σ (upd H1 f (.frz (lamOb ⟨X.env.qual ++ "<lambda>", ps, body, sc⟩ X.env.cells pm k ctv) (.own 0))) s1 → Q (.ref f) s1) :
    wpAny (model X.prog X.w) X.A (eval (.Lambda ps body sc pos) X.env) Q E s := by
  obtain ⟨tb, hP, ht, among⟩ := hT _ hm
  have mP : L.mu P := List.mem_map.mpr ⟨_, hm, rfl⟩
  have glb := I.mod.glob.keeps I.bk
  have cod := TB.code.keeps I.bk
  have bP := TB.bm.keeps I.bk
  have clo := closure_ok hfree
  have fin : ∀ {H1 : Hp} {h' : Heap} {t t' : Nat} {k : Addr} {pm ctv : Value}, Inv X pins σ H1 { s with heap := h', toks := t } → Grown L H H1 (X.env.qual ++ "<lambda>") k →
      Q (.ref h'.objs.size) { s with heap := h'.push (lamOb ⟨X.env.qual ++ "<lambda>", ps, body, sc⟩ X.env.cells pm k ctv), toks := t' } := fun {H1 h' t t' k pm ctv} J g => by
    have fr : H1 h'.objs.size = none := J.hok.fresh (Nat.le_refl _)
    refine hq _ k pm ctv H1 _ g fr ?_
    exact J.laid (t' := t') (fun b o e => Heap.get?_push_of_some _ e) (Nat.le_refl _) ⟨Heap.get?_push_size _ rfl, ⟨_, Heap.get?_push_size _ rfl⟩⟩
  refine PySem.W.kla_eval hdef ?_
  cases hc : codeAmong pos tb.toList with
  | some cv =>
    obtain ⟨k, rfl, hk⟩ := among pos cv hc
    refine PySem.W.kla_makeFunctionHit (mg := X.mg) (P := P) (c := c) (ps := tb) clo I.ok.glob glb hcode cod (I.hok P _ hP) ht hc bP fun ctv h' t' kp _ => ?_
    exact fin (I.kept (t' := t') kp) ⟨hk, fun _ _ e _ => e, fun _ _ e => e, fun _ _ _ e => e, hT⟩
  | none =>
    refine PySem.W.kla_makeFunction (mg := X.mg) (P := P) (c := c) (ps := tb) clo I.ok.glob glb hcode cod (I.hok P _ hP) ht hc TB.gP bP fun k ctv h' t' ext ge _ rec tab => ?_
    obtain ⟨k', oc, vs, t, ek, r1, r2, r3⟩ := rec
    obtain rfl : k = k' := Value.ref.inj ek
    have J := LamX.inv_table (t' := t') (q := X.env.qual ++ "<lambda>") (more := #[rawInt pos.line, rawInt pos.col, .ref k]) I hP (fun b o hb e => ext b o hb e) tab ge ⟨oc, vs, t, r1, r2, r3⟩
    have nk : H k = none := I.hok.fresh ge
    have nPk : P ≠ k := ne_of_none hP nk
    have el : (tb ++ #[rawInt pos.line, rawInt pos.col, Value.ref k]).toList = tb.toList ++ [rawInt pos.line, rawInt pos.col, .ref k] := by simp
    have at1 : ∀ b, b ≠ k → b ≠ P → upd (upd H P (.tbl (tb ++ #[rawInt pos.line, rawInt pos.col, .ref k]))) k (LamX.CodeO k (X.env.qual ++ "<lambda>")) b = H b := fun b h1 h2 => by rw [upd_ne h1, upd_ne h2]
    have atP : upd (upd H P (.tbl (tb ++ #[rawInt pos.line, rawInt pos.col, .ref k]))) k (LamX.CodeO k (X.env.qual ++ "<lambda>")) P = some (.tbl (tb ++ #[rawInt pos.line, rawInt pos.col, .ref k])) := by rw [upd_ne nPk, upd_same]
    refine fin J ⟨upd_same, fun a o e nm => ?_, fun a m e => ?_, fun a ob u e => ?_, fun p hp => ?_⟩
    · rw [at1 a (ne_of_none e nk) fun z => nm (by rw [z]; exact mP)]; exact e
    · by_cases z : a = P
      · rw [z, atP]; exact fun z => nomatch z
      · rw [at1 a (fun z => e (by rw [z]; exact nk)) z]; exact e
    · by_cases z : a = k
      · rw [z, upd_same] at e; cases e
      · by_cases z2 : a = P
        · rw [z2, atP] at e; cases e
        · rw [at1 a z z2] at e; exact e
    · have up : ∀ {b : Addr} {o : HO}, H b = some o → (∀ ps, o ≠ .tbl ps) → upd (upd H P (.tbl (tb ++ #[rawInt pos.line, rawInt pos.col, .ref k]))) k (LamX.CodeO k (X.env.qual ++ "<lambda>")) b = some o := fun {b o} e n => by
        rw [at1 b (ne_of_none e nk) fun z => n tb (by rw [z, hP] at e; exact (Option.some.inj e).symm)]; exact e
      have nt : ∀ {b : Addr} {q : Str} (ps : Array Value), LamX.CodeO b q ≠ .tbl ps := fun ps z => by cases z
      by_cases z : p.1 = P
      · rw [hu p hp z, z]
        refine ⟨_, atP, by rw [el]; exact PySem.TriplesOk_snoc _ _ _ _ ht, fun p2 cv q => ?_⟩
        rw [el] at q
        rcases LamX.among_app _ ht q with y | y
        · obtain ⟨k2, e1, e2⟩ := among p2 cv y
          exact ⟨k2, e1, up e2 nt⟩
        · exact ⟨k, y, upd_same⟩
      · obtain ⟨tb2, a1, a2, a3⟩ := hT p hp
        refine ⟨tb2, by rw [at1 _ (ne_of_none a1 nk) z]; exact a1, a2, fun p2 cv q => ?_⟩
        obtain ⟨k2, e1, e2⟩ := a3 p2 cv q
        exact ⟨k2, e1, up e2 nt⟩
end
section
variable {X : Cx} {ca : Str → Addr} {L : LamP} {P : DrawP} {W : WX}
/-- what a def with lambdas knows of its code object and the table -/
structure LamC (X : Cx) (L : LamP) : Prop where
  ex : ∃ c P, LamX.TabB X.base X.mg c P ∧ X.env.code = .ref c ∧ (P, X.env.qual ++ "<lambda>") ∈ L.T ∧ ∀ p ∈ L.T, p.1 = P → p.2 = X.env.qual ++ "<lambda>"
theorem ev_lam {i : Nat} {ps : Arguments} {body : Expr} {sc : Scope} {pos : Pos} (C : LamC X L) (hl : L.lm i = ⟨X.env.qual ++ "<lambda>", ps, body, sc⟩) (S : LamX.LamS X.env.scope sc) (hdef : defaultsOf ps X.env = ([], []) := by rfl) :
    EV X (cD X.K ca L P) W (.Lambda ps body sc pos) (dC (.lam i X.env.cells)) := by
  refine ⟨fun ρ k k' E E' hk hE q => hk _ q, ⟨fun pins s σ H Q I h => ?_⟩⟩
  obtain ⟨B, ρ, p, rp, q⟩ := h
  obtain ⟨c, P', TB, hcode, hm, hu⟩ := C.ex
  have iL := p.inv.2
  refine lam_new I TB hcode hm hu iL.t hdef (LamX.LamS.has S I.ok) fun f k pm ctv H1 s1 g fr J => ?_
  obtain ⟨g1, g2, g3, g4, g5⟩ := g
  have fH : H f = none := by
    cases z : H f with
    | none => rfl
    | some o =>
      by_cases m : L.mu f
      · exact absurd fr (g3 f m (by rw [z]; exact fun z => nomatch z))
      · rw [g2 f o z m] at fr; cases fr
  have fB : B f = none := p.bnone fH
  have keep : ∀ a o, H a = some o → ¬ L.mu a → upd H1 f (.frz (lamOb ⟨X.env.qual ++ "<lambda>", ps, body, sc⟩ X.env.cells pm k ctv) (.own 0)) a = some o := fun a o e n => by
    rw [upd_ne (ne_of_none e fH)]; exact g2 a o e n
  have nmB : ∀ a o, B a = some o → ¬ L.mu a := fun a o e m => by rw [p.av a (.inr m)] at e; cases e
  have kf : k ≠ f := fun z => by rw [← z, g1] at fr; cases fr
  have nonT : ∀ {a : Addr} {o : HO}, H a = some o → (∀ ps, o ≠ .tbl ps) → ¬ L.mu a := fun {a o} e n m => by
    obtain ⟨ps, z⟩ := iL.dm m
    rw [e] at z; exact n ps (Option.some.inj z)
  have iL2 : invL L (upd H1 f (.frz (lamOb ⟨X.env.qual ++ "<lambda>", ps, body, sc⟩ X.env.cells pm k ctv) (.own 0))) := by
    have fc : ∀ {b : Addr} {q : Str}, H1 b = some (LamX.CodeO b q) → upd H1 f (.frz (lamOb ⟨X.env.qual ++ "<lambda>", ps, body, sc⟩ X.env.cells pm k ctv) (.own 0)) b = some (LamX.CodeO b q) := fun {b q} e => by
      rw [upd_ne (ne_of_none e fr)]; exact e
    refine ⟨fun p hp => ?_, fun a ob u e M tk pm' k' ctv' eo => ?_⟩
    · obtain ⟨tb, a1, a2, a3⟩ := g5 p hp
      refine ⟨tb, by rw [upd_ne (ne_of_none a1 fr)]; exact a1, a2, fun pos cv hc => ?_⟩
      obtain ⟨k2, e1, e2⟩ := a3 pos cv hc
      exact ⟨k2, e1, fc e2⟩
    · by_cases z : a = f
      · rw [z, upd_same] at e
        cases e
        obtain ⟨e1, e2⟩ := lamOb_inj eo
        rw [← e1, ← e2]
        exact fc g1
      · rw [upd_ne z] at e
        have z1 := iL.f a ob u (g4 a ob u e) M tk pm' k' ctv' eo
        exact keep _ _ z1 (nonT z1 fun ps z => by cases z)
  have iD : drI P (upd H1 f (.frz (lamOb ⟨X.env.qual ++ "<lambda>", ps, body, sc⟩ X.env.cells pm k ctv) (.own 0))) := by
    obtain ⟨n1, n2, n3, ls, r, t, d⟩ := p.inv.1
    exact ⟨n1, n2, n3, ls, r, t, keep _ _ d.d (nonT d.d fun _ z => nomatch z), keep _ _ d.l (nonT d.l fun _ z => nomatch z), keep _ _ d.c (nonT d.c fun _ z => nomatch z)⟩
  have st : Step (cD X.K ca L P) B H (upd B f (.frz (lamOb ⟨X.env.qual ++ "<lambda>", ps, body, sc⟩ X.env.cells pm k ctv) (.own 0))) (upd H1 f (.frz (lamOb ⟨X.env.qual ++ "<lambda>", ps, body, sc⟩ X.env.cells pm k ctv) (.own 0))) := by
    refine ⟨Same.new fB, fun a o e => ?_, fun a e => upd_ne fun z => e (by rw [z]; exact fH), fun a o e n _ => keep a o e fun m => n (.inr m), fun a e => ?_, ⟨iD, iL2⟩, fun a m => ?_⟩
    · by_cases z : a = f
      · rw [z, upd_same] at e ⊢; exact e
      · rw [upd_ne z] at e
        exact keep a o (p.bh a o e) (nmB a o e)
    · by_cases z : a = f
      · rw [z, upd_same]; exact fun z => nomatch z
      · rw [upd_ne z]
        by_cases m : L.mu a
        · exact g3 a m e
        · cases y : H a with
          | none => exact absurd y e
          | some o => rw [g2 a o y m]; exact fun z => nomatch z
    · rw [upd_ne fun z => (p.nmu fH) (by rw [← z]; exact m)]
      exact p.av a m
  refine ⟨.ref f, _, J, rfl, q _ _ _ st (.lam (c' := k) (pm := pm) (ctv := ctv) ?_)⟩
  show (upd B f _) f = some (.frz (lamOb (L.lm i) X.env.cells pm k ctv) (.own 0))
  rw [upd_same, hl]
end
end Dv

set_option Elab.async false
set_option linter.all false
set_option maxRecDepth 100000
set_option maxHeartbeats 4000000
namespace Dv
open PySem PySem.Spec PyProof.Rows L2
/-! ### a caught exception is kept as a value -/
section
variable {X : Cx} {pins : List (Addr × Obj)} {σ : L2.St} {H : Hp} {s : Shared}
theorem Inv_keepX {a : Addr} {oe : Obj} {cls : Value} {d : Option Addr} {vs : Array Value} (I : Inv X ((a, oe) :: pins) σ H s) (h0 : X.s_0.heap.get? a = none) (hp : ∀ p ∈ X.pn ++ pins, p.1 ≠ a) (hz : Zc cls d oe) (hd : oe.data = .fields vs) : Inv X pins σ (upd H a (excO a cls d)) s := by
  obtain ⟨e1, e2, e3, e4, e5⟩ := I.pin (a, oe) (List.mem_append_right _ List.mem_cons_self)
  have ne : ∀ {b : Addr} {o : HO}, H b = some o → b ≠ a := fun e z => by rw [z, e2] at e; cases e
  have new : ObjOk X.prog X.w (upd H a (excO a cls d)) s.heap a (excO a cls d) :=
    ⟨⟨oe, vs, e1, hz.1, hz.2, hd⟩, ⟨oe, e1⟩, fun h1 h2 ⟨o, us, q1, q2⟩ st => ⟨o, us, st _ q1, q2⟩⟩
  have cl : ∀ x c, X.env.cells.lookup x = some c → c ≠ a := fun x c e z => by
    obtain ⟨v, o, q1, q2⟩ := I.cell x c e
    rw [z, e1] at q1
    cases q1
    exact e5 v q2
  refine ⟨I.ok, I.os, I.bare, ⟨I.base.keep, I.base.slot, fun b o q n hx => ?_, I.base.there, fun b xs q => ?_, fun b o u q => ?_, fun b ps q => ?_⟩, I.loc, I.cell, ?_, fun x c e => ?_, fun p hm => ?_, I.hok.laidN (fun _ _ q => q) e2 new, I.len⟩
  · rw [upd_ne fun z => by rw [z, h0] at q; cases q]
    exact I.base.free b o q n hx
  · have := I.base.tups b xs q
    rw [upd_ne (ne this)]; exact this
  · have := I.base.frzs b o u q
    rw [upd_ne (ne this)]; exact this
  · obtain ⟨m, this⟩ := I.base.tbls b ps q
    exact ⟨m, by rw [upd_ne (ne this)]; exact this⟩
  · rw [upd_ne e3.symm]; exact I.free
  · rw [upd_ne (cl x c e)]; exact I.freeC x c e
  · obtain ⟨q1, q2, q3⟩ := I.pin p (by
      rcases List.mem_append.mp hm with z | z
      · exact List.mem_append_left _ z
      · exact List.mem_append_right _ (List.mem_cons_of_mem _ z))
    exact ⟨q1, by rw [upd_ne (hp p hm)]; exact q2, q3⟩
theorem Inv_offsuite {a : Addr} {oe : Obj} (I : Inv (X.suite a ((a, oe) :: (X.pn ++ pins))) [] σ H s) (ok : X.Ok) : Inv X ((a, oe) :: pins) σ H s := by
  refine ⟨ok, I.os, I.bare, I.base, I.loc, I.cell, I.free, I.freeC, fun p hm => I.pin p ?_, I.hok, I.len⟩
  show p ∈ ((a, oe) :: (X.pn ++ pins)) ++ []
  rw [List.append_nil]
  rcases List.mem_append.mp hm with z | z
  · exact List.mem_cons_of_mem _ (List.mem_append_left _ z)
  · rcases List.mem_cons.mp z with z | z
    · rw [z]; exact List.mem_cons_self
    · exact List.mem_cons_of_mem _ (List.mem_append_right _ z)
end
/-- what the clause wishes: the class is the clause's; the name l holds the exception -/
def wKeep (K : PySem.W.Frag) (c : Value) (N : List Str) (i l : Nat) (D : Ends) : WX := fun cls d σ H => PySem.W.exmOne K cls c = some true ∧ ∀ a, H a = none → σ.length = N.length → D.nx (((σ.set i (some (.ref a))).set l (some (.ref a))).set i none) (upd H a (excO a cls d))
section
variable {X : Cx} {x n y : Str} {c : Value} {i l : Nat} {body : List Stmt} {np yp ep apos pos pos' : Pos} {tb : WX → TS}
theorem ps_try_keep (hs : X.stack = X.env :: X.outer) (hf : X.env.frame = some X.env.locals) (hN : X.N.Nodup) (hi : X.N[i]? = some n) (hln : X.env.kindOf n = some .local) (hl : X.N[l]? = some y) (hly : X.env.scope.names.lookup y = some .local) (hc : Names X x c)
    (hlen : i < X.N.length) (hex : X.ex = []) (hd : (n == ("__debug__" : Str)) = false) (hcd : (n == ("__classdict__" : Str)) = false)
    (hb : ∀ (W : WX) (pn : List (Addr × Obj)) (xe : Value → Shared → Prop), Takes (X.tr pn xe) W → PSs (X.tr pn xe) body (tb W))
    (hsw : ∀ env : Env, env = X.env → swapsWith (.Name n ep) (some (.Name y yp)) apos.line env = pure false) :
    PS X (.Try body [.ExceptHandler (some (.Name x np)) (some n) [.Assign [.Name y yp] (.Name n ep) apos] pos'] [] [] pos) (fun D σ H => tb (wKeep X.K c X.N i l D) D σ H) := by
  refine ⟨fun pins s σ H D I h => ?_⟩
  have ok := I.ok
  have frm : X.A.frames = some (X.env :: X.outer) := by rw [ok.frames, hs]
  refine wpAny_Try_except ?_
  have hrun := (hb (wKeep X.K c X.N i l D) (X.pn ++ pins) (fun e s1 => wpAny (model X.prog X.w) X.A (noteFrame e X.env) (fun _ s2 => wpAny (model X.prog X.w) X.A (setFlight e none) (fun _ s3 =>
    wpAny (model X.prog X.w) X.A (handleBy e X.env [.ExceptHandler (some (.Name x np)) (some n) [.Assign [.Name y yp] (.Name n ep) apos] pos']) (SP X pins D) X.xe s3) X.xe s2) X.xe s1) (fun u s' xx => ?_)).run [] s σ H D (I.toTry _) h
  · refine wpAny_mono hrun (fun f s1 hsp => ?_) fun e s1 he => he
    cases f with
    | next => obtain ⟨σ', H', J, q⟩ := hsp; exact wpAny_execs_nil ⟨σ', H', J.ofTry ok, q⟩
    | brk => obtain ⟨σ', H', J, q⟩ := hsp; exact ⟨σ', H', J.ofTry ok, q⟩
    | cont => obtain ⟨σ', H', J, q⟩ := hsp; exact ⟨σ', H', J.ofTry ok, q⟩
    | ret u => obtain ⟨v, σ', H', J, r, q⟩ := hsp; exact ⟨v, σ', H', J.ofTry ok, r, q⟩
  obtain ⟨a, B, sI, pins', σ', H', cls, d, rfl, J', nb, up, sky, na, os, ag, hb1, hyes⟩ := xx
  have J : Inv X pins σ' H' sI := J'.ofTry ok
  have sky' : Sky B (X.env :: X.outer) a (Zc cls d) X.env.locals s'.heap := by rw [← hs]; exact sky
  have Ba : B.get? a = none := by
    rcases sky with z | z | z
    · exact z.2.1
    · exact z.2.1
    · exact z.2.1
  show wpAny (model X.prog X.w) X.A (noteFrame (.ref a) X.env) _ _ _
  refine Sky.land Zc.steady frm hf sky' fun h3 fl3 up3 => ?_
  have J3 : Inv X pins σ' H' { s' with heap := h3 } := J.landed nb fl3.1 (up.trans up3) os ag
  obtain ⟨oe3, vs3, he3, hz3, hd3⟩ := fl3.there
  have nfr : a ∉ frs (X.env :: X.outer) := fun hm => by
    obtain ⟨_, o', e', hnf⟩ := fl3.2.2.1.mem hm
    rw [he3] at e'
    cases e'
    exact hnf _ hd3
  have nL : a ≠ X.env.locals := fun z => nfr (List.mem_filterMap.mpr ⟨X.env, List.mem_cons_self, by rw [hf, z]⟩)
  have nF : a ∉ X.fs := fun hm => by
    obtain ⟨e, he, q⟩ := List.mem_filterMap.mp hm
    exact nfr (List.mem_filterMap.mpr ⟨e, List.mem_cons_of_mem _ he, q⟩)
  have new0 : ∀ o, sI.heap.get? a = some o → False := fun o e => by
    have z := nb a o e (by rw [hs]; exact nfr)
    rw [Ba] at z; cases z
  have h00 : X.s_0.heap.get? a = none := by
    cases z : X.s_0.heap.get? a with
    | none => rfl
    | some o =>
      obtain ⟨o', e'⟩ := J.base.there a o z (by rw [hex]; exact fun z => nomatch z)
      exact (new0 o' e').elim
  have hpn : ∀ p ∈ X.pn ++ pins, p.1 ≠ a := fun p hm z => by
    obtain ⟨e1, _⟩ := J.pin p hm
    rw [z] at e1
    exact new0 _ e1
  have S3 := J3.suite he3 hd3 na nL nF
  refine wpAny_handleBy_cons (codeAny_handlers_test ?_) (by intro q; cases q)
  have LT : PySem.W.Looks (model X.prog X.w) h3 (typeOf (.ref a)) cls := fun A Q E s k q => wpAny_typeOf_ref (k _ _ he3) (by rw [hz3.1]; exact q)
  have LM := PySem.W.exm_one (M := model X.prog X.w) (J3.kIn) LT hb1
  have test : ∀ {Q E : Value → Shared → Prop}, Q c { s' with heap := h3 } → wpAny (model X.prog X.w) (X.A.mark (some (.ref a))) (eval (.Name x np) X.env) Q E { s' with heap := h3 } := fun {Q E} q => by
    obtain ⟨hg, hdbg, hm | ⟨hm, hv, hnn⟩⟩ := hc
    · exact ld_glob (X := X.suite a ((a, oe3) :: (X.pn ++ pins))) S3 hg hm q hdbg
    · exact ld_blt (X := X.suite a ((a, oe3) :: (X.pn ++ pins))) S3 hg hm hv q hnn hdbg
  refine test (LM.here (codeAny_handlers_suite_as (HandSPX.lands_againZ fl3 fun h4 fl4 up4 => ?_)))
  have J4 : Inv X pins σ' H' { s' with heap := h4 } := J.landed nb fl4.1 ((up.trans up3).trans up4) os ag
  obtain ⟨oe4, vs4, he4, hz4, hd4⟩ := fl4.there
  have S4 := J4.suite he4 hd4 na nL nF
  refine store_ok (X := X.suite a ((a, oe4) :: (X.pn ++ pins))) (v := .ref a) S4 hN hi (.inl hln) rfl (fun s5 S5 => ?_) (.inr hln)
  have st := ps_set (X := X.suite a ((a, oe4) :: (X.pn ++ pins))) (pos' := yp) (pos := apos) hN hl (.inl hly) (pe_var (pos := ep) hi (.inl hln) hd hcd) (hsw _ rfl) (.inr hly)
  have hi' : (σ'.set i (some (.ref a)))[i]? = some (some (.ref a)) := List.getElem?_set_self (by rw [J.len]; exact hlen)
  refine wpAny_mono ((pss_one st).run [] s5 _ H' { nx := fun σ6 H6 => σ6 = (σ'.set i (some (.ref a))).set l (some (.ref a)) ∧ H6 = H', rt := fun _ _ => False, bk := fun _ _ => False, ct := fun _ _ => False } S5 ⟨_, hi', rfl, rfl⟩) (fun f s6 hsp => ?_) (fun _ _ z => False.elim z)
  cases f with
  | brk => obtain ⟨_, _, _, z⟩ := hsp; exact z.elim
  | cont => obtain ⟨_, _, _, z⟩ := hsp; exact z.elim
  | ret u => obtain ⟨_, _, _, _, _, z⟩ := hsp; exact z.elim
  | next =>
    obtain ⟨σ6, H6, S6, rfl, rfl⟩ := hsp
    refine gone_ok (Inv_offsuite S6 ok) hN hi hln fun s7 J7 => ?_
    exact ⟨_, _, Inv_keepX J7 h00 hpn hz4 hd4, hyes a na J.len⟩
end
end Dv

set_option Elab.async false
set_option linter.all false
set_option maxRecDepth 100000
set_option maxHeartbeats 4000000
namespace Dv
open PySem PySem.Spec PyProof.Rows L2
/-! ### a lambda is called -/
abbrev LX (X : Cx) (A : Around) (outer : List Env) (s : Shared) (H : Hp) (E : L2.XK) (sc : Scope) (f k : Addr) : Cx := LamX.lamCx X A outer s H E sc f k
section
variable {X : Cx} {pins : List (Addr × Obj)} {σ : L2.St} {H : Hp} {s : Shared}
theorem pe_lamCall {Ng : List Str} {qg : Str} {sg : Scope} {g f k : Addr} {cdg pm ctv : Value} {M : LamT} {j i : Nat} {a : Str} {pn : List (Addr × Obj)} {xe : Value → Shared → Prop} {W : WX} {E : L2.XK} {tb : TE} {p1 p2 : Pos}
    (I : Inv X pins σ H s) (S : LamX.LamS X.env.scope M.sc) (hM : M.q = X.env.qual ++ "<lambda>")
    (hbind : ∀ (q : Str) (cl : List (Str × Addr)) (pm cv ctv : Value), bindArgs (PySem.W.kla_fn "<lambda>" q M.ps M.body M.sc cl pm cv ctv) ⟨[], []⟩ = pure [])
    (tk : Takes ((cxOf C8.CX0 X.prog X.w X.K X.mg X.base Ng qg sg g cdg X.A X.stack s H C8.E0).tr pn xe) W) (hW : ∀ cls d σ' H', E cls d H' → W cls d σ' H') (hr : Room (j + 1) (X.A.deeper (envOfC qg sg s.heap.objs.size g cdg)))
    (hbody : ∀ (A : Around) (outer : List Env) (s0 : Shared) (H0 : Hp), A = X.A.deeper (envOfC qg sg s.heap.objs.size g cdg) → Room j (A.deeper (LamX.lamEnv X M.sc s0.heap.objs.size f k)) → PE (LX X A outer s0 H0 E M.sc f k) M.body tb)
    (hN : Ng[i]? = some a) (hv : Vis sg a) (hd : (a == ("__debug__" : Str)) = false) (hcd : (a == ("__classdict__" : Str)) = false) :
    PE ((cxOf C8.CX0 X.prog X.w X.K X.mg X.base Ng qg sg g cdg X.A X.stack s H C8.E0).tr pn xe) (.Call (.Name a p1) [] [] p2)
      (fun σZ HZ Q => σZ[i]? = some (some (.ref f)) ∧ HZ f = some (.frz (lamOb M X.env.cells pm k ctv) (.own 0)) ∧ HZ k = some (LamX.CodeO k M.q) ∧ tb σ HZ Q) := by
  refine ⟨fun pinsZ sZ σZ HZ Q IZ ⟨hσ, hf, hk, ht⟩ => ?_⟩
  have pv := (pe_var (X := ((cxOf C8.CX0 X.prog X.w X.K X.mg X.base Ng qg sg g cdg X.A X.stack s H C8.E0).tr pn xe)) (pos := p1) (i := i) hN hv hd hcd).run pinsZ sZ σZ HZ (fun v H1 => v = .ref f ∧ H1 = HZ) IZ ⟨_, hσ, rfl, rfl⟩
  refine wpAny_Call_Name_kw (thn pv fun u s1 ⟨v, H1, I1, r1, ev, eH⟩ => ?_)
  subst ev
  subst eH
  obtain rfl : u = Value.ref f := r1
  have ob : s1.heap.get? f = some (lamOb M X.env.cells pm k ctv) := (I1.hok f _ hf).1
  have un : Un (frs X.stack) [] H H1 s.heap s1.heap := I1.base
  obtain ⟨⟨oc, vs, t, c1, c2, c3⟩, _, _⟩ := I1.hok k _ hk
  refine PySem.W.callWith_F0 ⟨_, _, _, _, ob⟩ ?_
  have run : codeAny (model X.prog X.w) (X.A.deeper (envOfC qg sg s.heap.objs.size g cdg)) (.call (.ref f) ⟨[], []⟩) (CR (L2.CX X.prog X.w) (envOfC qg sg s.heap.objs.size g cdg :: X.stack) X.prog X.w H1 s1 Q E) s1 := by
    refine PySem.W.kla_callFunE hr.depth ob rfl S.co S.gen rfl ⟨k, oc, vs, t, rfl, c1, c2, c3⟩ ?_
    rw [hbind]
    refine wpAny_pure (wpAny_newFunctionEnv (fun y hy => (S.own y hy).2) (fun y hy => absurd hy (by simp)) (fun h1 hns hsb => ?_) S.kind)
    refine ⟨I1.nolimit.fresh _ hsb, ?_⟩
    have kp : ∀ b o, s1.heap.get? b = some o → h1.get? b = some o := fun b o e => hsb.extBut b o (Nat.ne_of_lt (Heap.lt_size e)) (Heap.get?_push_of_some _ e)
    have J := LamX.lam_start2 (E := E) (f := f) (c' := k) (tk := s1.toks) I S I1.env0 hr.hd un hns kp
    have lq : LamX.lamEnv X M.sc s1.heap.objs.size f k = PySem.W.envX M.q M.sc s1.heap.objs.size f (.ref k) (cloFrom X.env.cells M.sc.names []) := by rw [hM]
    show codeAny _ _ (.expr M.body (PySem.W.envX M.q M.sc s1.heap.objs.size f (.ref k) (cloFrom X.env.cells M.sc.names []))) _ _
    rw [← lq]
    refine PySem.W.kla_codeExpr (wpAny_mono ((hbody _ _ s1 H1 rfl (hr.deeper _)).run [] _ _ H1 Q J ht) (fun v s' hq => ?_) fun e s' hq => hq)
    obtain ⟨w', H', J', rv, q⟩ := hq
    exact ⟨w', H', J'.os, J'.bare, J'.base, J'.hok, rv, q⟩
  refine wpAny_call (codeAny_mono run fun r s' hq => ?_)
  cases r with
  | error e => exact passes_call (X := ((cxOf C8.CX0 X.prog X.w X.K X.mg X.base Ng qg sg g cdg X.A X.stack s H C8.E0).tr pn xe)) tk hW pinsZ σZ _ s1 e s' I1 hq
  | ok fl =>
    cases fl with
    | ret u => exact I1.after hq
    | next => exact hq.elim
    | brk => exact hq.elim
    | cont => exact hq.elim
end
/-! ### _law_caught(e) -/
/-- a lambda of the def at hand: its body's reading -/
structure LamRow (X : Cx) (c : Cn X.K) (j i : Nat) (b : DV) : Prop where
  S : LamX.LamS X.env.scope (c.lm i).sc
  q : (c.lm i).q = X.env.qual ++ "<lambda>"
  bind : ∀ (q : Str) (cl : List (Str × Addr)) (pm cv ctv : Value), bindArgs (PySem.W.kla_fn "<lambda>" q (c.lm i).ps (c.lm i).body (c.lm i).sc cl pm cv ctv) ⟨[], []⟩ = pure []
  ev : ∀ (A : Around) (outer : List Env) (s : Shared) (H : Hp) (E : L2.XK) (f k : Addr), Fm (LX X A outer s H E (c.lm i).sc f k) (FW E) j → EV (LX X A outer s H E (c.lm i).sc f k) c (FW E) (c.lm i).body b
def dCaught (Xs : List Str) (tk : List (Str × Addr)) (tb : List (Nat × DV)) (f : DV) : DR := fun ρ k E =>
  f ρ (fun d => ∃ i b, d = .lam i tk ∧ (i, b) ∈ tb ∧ b ρ (fun _ => k (.val .non)) (fun x => x.C ∈ Xs ∧ k (.val (.xcp x.C x.fs)))) E
/-- the def _law_caught -/
structure CaughtF (K : PySem.W.Frag) (mg : Str → Option Value) (ca : Str → Addr) (Xs : List Str) (x : Str) (st : Stmt) : Prop where
  g : mg x = some (.ref (ca x))
  fu : ∃ fd, Fun K x x st (ca x) fd
  gr : mg "RingError" = some (.ref (ca "RingError"))
  ex : ∀ C ∈ Xs, PySem.W.exmOne K (.ref (ca C)) (.ref (ca "RingError")) = some true
  xc : ∀ C ∈ Xs, L2.ExcC K (ca C)

section
variable {X : Cx} {ca : Str → Addr} {L : LamP} {P : DrawP} {W : WX} {e : Expr} {pos p : Pos} {f : DV} {j : Nat}
theorem Fm.lam (m : Fm X W j) {A : Around} {outer : List Env} {s : Shared} {H : Hp} {E : L2.XK} {sc : Scope} {f k : Addr} {i : Nat} {env : Env} (hA : A = X.A.deeper env) (hr : Room i (A.deeper (LamX.lamEnv X sc s.heap.objs.size f k))) : Fm (LX X A outer s H E sc f k) (FW E) i := by
  subst hA
  exact ⟨m.nd, rfl, hr, m.gd, takes_of rfl rfl rfl rfl, passes_of rfl⟩
theorem er_caught {x a y n : Str} {st : Stmt} {Ng : List Str} {li ly k0 : Nat} {Xs : List Str} {tb : List (Nat × DV)} {p1 p2 p3 p4 p5 p6 p7 p8 p9 p10 p11 p12 p13 p14 : Pos} (m : Fm X W j) (hj : 2 ≤ j) (F : CaughtF X.K X.mg ca Xs x st) (hg : Gl X x) (S : FnScope Ng [a] (defScope st)) (hb : BindP x st [a] [] 1 id)
    (hst : defBody st = [.Assign [.Name y p1] (.Constant .none k0 p2) p3, .Try [.Expr (.Call (.Name a p4) [] [] p5) p6] [.ExceptHandler (some (.Name "RingError" p7)) (some n) [.Assign [.Name y p8] (.Name n p9) p10] p11] [] [] p12, .Return (some (.Name y p13)) p14])
    (hNa : Ng[0]? = some a) (hNy : Ng[ly]? = some y) (hNn : Ng[li]? = some n) (hne : li ≠ ly) (hly : 0 < ly) (hla : (defScope st).names.lookup a = some .local) (hlY : (defScope st).names.lookup y = some .local) (hlN : (defScope st).names.lookup n = some .local) (hlR : (defScope st).names.lookup ("RingError" : Str) = some .globalImplicit)
    (hda : (a == ("__debug__" : Str)) = false) (hca : (a == ("__classdict__" : Str)) = false) (hdy : (y == ("__debug__" : Str)) = false) (hcy : (y == ("__classdict__" : Str)) = false) (hdn : (n == ("__debug__" : Str)) = false) (hcn : (n == ("__classdict__" : Str)) = false)
    (he : EV X (cD X.K ca L P) W e f) (rows : ∀ q ∈ tb, LamRow X (cD X.K ca L P) (j - 2) q.1 q.2)
    (hsw1 : ∀ env : Env, swapsWith (.Constant .none k0 p2) (some (.Name y p1)) p3.line env = pure false) (hsw2 : ∀ env : Env, swapsWith (.Call (.Name a p4) [] [] p5) none p6.line env = pure false) (hsw3 : ∀ env : Env, swapsWith (.Name n p9) (some (.Name y p8)) p10.line env = pure false)
    (hse : starEach [e] X.env = (false, eval e X.env) :: starEach [] X.env := by rfl) (hdb : (x == ("__debug__" : Str)) = false := by decide) :
    ER X (cD X.K ca L P) W (.Call (.Name x p) [e] [] pos) (dCaught Xs X.env.cells tb f) := by
  have hmn : ∀ q ∈ tb, Mn q.2 := fun q hq => by
    have hr : Room (j - 2 + 1 + 1) X.A := m.room.mono (by omega)
    exact ((rows q hq).ev _ [] {} (fun _ => none) (fun _ _ _ => False) 0 0 (m.lam (env := X.env) rfl ((hr.deeper _).deeper _))).mn
  refine ⟨fun ρ k k' E E' hk hE q => he.mn ρ _ _ E E' (fun d ⟨i, b, h1, h2, h3⟩ => ⟨i, b, h1, h2, (hmn _ h2) ρ _ _ _ _ (fun _ z => hk _ z) (fun x z => ⟨z.1, hk _ z.2⟩) h3⟩) hE q, ⟨fun pins s σ H Q I h => ?_⟩⟩
  obtain ⟨fd, fu⟩ := F.fu
  have kp := fu.kp
  obtain ⟨oc, od, kV, doc, pm0, an, cdv, ct, osl, rfl, lk, hcd⟩ := fu.ex
  refine wpAny_Call_Name_kw (ld_glob I hg F.g ?_ hdb)
  have ha := pa_cons he.pe pa_nil hse
  obtain ⟨B, ρ, p0, rp, q⟩ := h
  have harg : (tCons (tV (cD X.K ca L P) W f) tNil) σ H fun vs H1 => ∃ v B1, vs = [v] ∧ Step (cD X.K ca L P) B H B1 H1 ∧ ∃ i b, Is (cD X.K ca L P) B1 v (.lam i X.env.cells) ∧ (i, b) ∈ tb ∧ b ρ (fun _ => ∀ v B' H', Step (cD X.K ca L P) B H B' H' → RvOk (cD X.K ca L P) H B' H' v (.val .non) → Q v H') (fun x => x.C ∈ Xs ∧ ∀ v B' H', Step (cD X.K ca L P) B H B' H' → RvOk (cD X.K ca L P) H B' H' v (.val (.xcp x.C x.fs)) → Q v H') := by
    refine ⟨B, ρ, p0, rp, he.mn _ _ _ _ _ (fun d ⟨i, b, h1, h2, h3⟩ v B1 H1 s1 i1 => ?_) (fun _ z => z) q⟩
    subst h1
    exact ⟨v, B1, rfl, s1, i, b, i1, h2, h3⟩
  refine PySem.W.callWith_K (h₀ := X.base) I.ok.mod.kin kp (thn (ha.run pos pins s σ H _ I harg) fun us s1 ⟨vs, H1, I1, r, v, B1, ev, st1, i, b, is, hib, hq⟩ => ⟨I1.kIn, ?_⟩) hse rfl
  subst ev
  have row := rows _ hib
  have pr := st1.pre
  cases is with
  | @lam _ _ fa k pm ctv hB =>
    obtain ⟨u, rfl, ru⟩ : ∃ u, us = [u] ∧ RelV (.ref fa) u := by
      cases r with
      | cons r1 r2 => cases r2; exact ⟨_, rfl, r1⟩
    obtain rfl : u = Value.ref fa := ru
    have hHf : H1 fa = some (.frz (lamOb ((cD X.K ca L P).lm i) X.env.cells pm k ctv) (.own 0)) := pr.bh _ _ hB
    have hHk := pr.inv.2.f fa _ _ hHf _ _ _ _ _ rfl
    have hbt : BindsTo s1 (PySem.W.fnOf x x (defArgs st) (defBody st) (defScope st) .none kV doc pm0 an cdv ct) ⟨[.ref fa], []⟩ (([a] : List Str).zip [.ref fa]) := .of_eq (by
      have z := hb kV doc pm0 an cdv ct [.ref fa] [] rfl rfl
      simpa using z)
    have hroom : Room (j - 2 + 1 + 1) X.A := m.room.mono (by omega)
    have lenN : 0 < Ng.length ∧ li < Ng.length ∧ ly < Ng.length := ⟨(List.getElem?_eq_some_iff.mp hNa).1, (List.getElem?_eq_some_iff.mp hNn).1, (List.getElem?_eq_some_iff.mp hNy).1⟩
    have rc : codeAny (model X.prog X.w) X.A (.call (.ref (ca x)) ⟨[.ref fa], []⟩) (CR C8.CX0 X.stack X.prog X.w H1 s1 Q C8.E0) s1 := by
      refine LamX.run_ofS (N := Ng) (ps := [a]) (us := [.ref fa]) (vs := [.ref fa]) lk hcd S hroom I1.env0 hbt (.cons rfl .nil) rfl fun hr' => ?_
      rw [hst]
      have z1 := ps_set (X := cxOf C8.CX0 X.prog X.w X.K X.mg X.base Ng x (defScope st) (ca x) cdv X.A X.stack s1 H1 C8.E0) (pos' := p1) (pos := p3) S.nd hNy (.inl hlY) (pe_non (j := k0) (pos := p2)) (hsw1 _) (.inr hlY)
      have z3 := ps_ret (X := cxOf C8.CX0 X.prog X.w X.K X.mg X.base Ng x (defScope st) (ca x) cdv X.A X.stack s1 H1 C8.E0) (pos := p14) (pe_var (pos := p13) hNy (.inl hlY) hdy hcy)
      have z2 := ps_try_keep (X := cxOf C8.CX0 X.prog X.w X.K X.mg X.base Ng x (defScope st) (ca x) cdv X.A X.stack s1 H1 C8.E0) (np := p7) (yp := p8) (ep := p9) (apos := p10) (pos := p12) (pos' := p11) (body := [.Expr (.Call (.Name a p4) [] [] p5) p6])
        (tb := fun W D σZ HZ => ∃ Ech : L2.XK, (∀ cls d σ' H', Ech cls d H' → W cls d σ' H') ∧ σZ[0]? = some (some (.ref fa)) ∧ HZ fa = some (.frz (lamOb ((cD X.K ca L P).lm i) X.env.cells pm k ctv) (.own 0)) ∧ HZ k = some (LamX.CodeO k ((cD X.K ca L P).lm i).q) ∧ tV (cD X.K ca L P) (FW Ech) b σ HZ fun _ H' => D.nx σZ H')
        rfl rfl S.nd hNn hlN hNy hlY ⟨hlR, by decide, .inl F.gr⟩ lenN.2.1 rfl hdn hcn (fun W' pn xe tk => ⟨fun pins' s' σ' H' D I' ⟨Ech, hW, h⟩ => ?_⟩) (fun env _ => hsw3 env)
      · refine ⟨_, pss_cons z1 (pss_cons z2 (pss_one z3)), ?_⟩
        refine ⟨fun cls d H' => PySem.W.exmOne X.K cls (.ref (ca "RingError")) = some true ∧ ∀ a, H' a = none → Q (.ref a) (upd H' a (excO a cls d)), fun cls d σ' H' ⟨k1, k2⟩ => ⟨k1, fun a' ha' hl => ⟨.ref a', ?_, k2 a' ha'⟩⟩, ?_, hHf, hHk, B1, ρ, pr, rp.mono st1.b, hmn _ hib _ _ _ _ _ (fun d hd v B' H' st2 _ => ?_) (fun xn hx cls d σ' B' H' st2 xo => ?_) hq⟩
        · have hl' : σ'.length = Ng.length := hl
          rw [List.getElem?_set_ne hne, List.getElem?_set_self (by rw [List.length_set, hl']; exact lenN.2.2)]
        · rw [List.getElem?_set_ne (by omega)]
          rfl
        · refine ⟨.non, ?_, hd _ B' H' (st1.trans st2) (rv_val .non)⟩
          rw [List.getElem?_set_self]
          rw [start_len (by exact lenN.1)]; exact lenN.2.2
        · obtain ⟨hx1, hx2⟩ := hx
          obtain ⟨rfl, xo2⟩ := xo
          refine ⟨F.ex _ hx1, fun a' ha' => ?_⟩
          have st3 := Step.new st2.pre ha' (excO a' (.ref (ca xn.C)) d) (fun _ _ z => by unfold excO at z; cases z)
          have bn := st2.pre.bnone ha'
          refine hx2 _ _ _ (st1.trans (st2.trans st3)) (rv_val ?_)
          rcases xo2 with ⟨e1, rfl⟩ | ⟨dx, gs, rfl, e2, e3⟩
          · rw [e1]; exact .xcp0 upd_same (F.xc _ hx1)
          · exact .xcp1 upd_same (Same.new bn _ _ e2) (F.xc _ hx1) (e3.mono (Same.new bn))
      · have hp := pe_lamCall (pn := pn) (xe := xe) (p1 := p4) (p2 := p5) (f := fa) (k := k) (pm := pm) (ctv := ctv) (g := ca x) (cdg := cdv) (i := 0) (E := Ech) (tb := tV (cD X.K ca L P) (FW Ech) b) I1 row.S row.q row.bind tk hW hr' (fun A outer s0 H0 eA hr2 => (row.ev A outer s0 H0 Ech fa k (m.lam eA hr2)).pe) hNa (.inl hla) hda hca
        exact (pss_one (ps_expr (pos := p6) hp (hsw2 _))).run pins' s' σ' H' D I' h
    refine wpAny_call (codeAny_mono rc fun r s2 hq => ?_)
    cases r with
    | error e => exact (show False from hq).elim
    | ok fl =>
      cases fl with
      | ret u => exact I1.after hq
      | next => exact hq.elim
      | brk => exact hq.elim
      | cont => exact hq.elim
end
end Dv

set_option Elab.async false
set_option linter.all false
set_option maxRecDepth 100000
set_option maxHeartbeats 4000000
namespace Dv
open PySem PySem.Spec PyProof.Rows L2
/-! ### isinstance of a held exception -/
section
open PySem.W PySem.Calls
variable {prog : Program} {w : World} {A : Around} {E : Value → Shared → Prop} {s : Shared} {K : Frag} {x D : Addr} {ox : Obj} {od : Option Obj}
theorem found_class (h : L2.ExcC K D) : findObj K D od "__class__" = some (.bind (.builtin "getset_descriptor.__get__") (.builtin "object.__class__")) := by
  obtain ⟨cd, hc, _⟩ := any_some h.hd
  unfold findObj
  rw [show clsIn K D = some cd from hc, Option.bind_some, h.ha, Option.bind_some]
  simp [h.hn, h.ht]
theorem class_of_exc (h : L2.ExcC K D) {Q : Option Value → Shared → Prop} (X : K.In s.heap) (I : InstAt s.heap x ox D od) (hq : Q (some (.ref D)) { s with toks := s.toks + 1 }) : wpAny (model prog w) A (getAttr? (.ref x) "__class__") Q E s := by
  obtain ⟨hp, g, dr, t, os⟩ := s
  have ty := I.type (M := model prog w)
  have lga := looks_findIn (M := model prog w) X h.hg
  have lgt := looks_findIn (M := model prog w) X h.hk
  have lf := looks_find (M := model prog w) X I (found_class (od := od) h)
  have sub : Looks (model prog w) hp (isInstance (.ref x) (.type "BaseException")) true := ty.andThen (looks_subIn X h.hs)
  have n2 : (Value.builtin "BaseException.__getattribute__" == Value.builtin "object.__getattribute__") = false := by decide +kernel
  have n1 : (onTheHeap (Value.ref D) && Value.builtin "BaseException.__getattribute__" == Value.builtin "object.__getattribute__") = false := by
    rw [n2]; rfl
  have n0 : (false && onTheHeap (Value.builtin "BaseException.__getattribute__")) = false := rfl
  unfold getAttr? getAttrBy? getAttrBy
  refine wpAny_bind (wpAny_mkText (wpAny_bind (wpAny_attempt (wpAny_holding (wpAny_bind (ty.at (wpAny_bind (lga.at ?_))))))))
  show wpAny _ _ (if (onTheHeap (Value.ref D) && Value.builtin "BaseException.__getattribute__" == Value.builtin "object.__getattribute__") = true then _ else _) _ _ _
  rw [n1, if_neg Bool.false_ne_true]
  unfold getAttrByItsOwn hookBefore
  refine wpAny_bind ?_
  rw [if_pos (show onTheHeap (Value.ref D) = true from rfl)]
  refine lgt.at (wpAny_bind (wpAny_attempt (wpAny_holding ?_)))
  unfold callGetattribute
  rw [n0, if_neg Bool.false_ne_true]
  unfold boundAndCalled
  rw [PySem.F.excAttr_ValueError.ga.bind (.ref x)]
  refine wpAny_bind (wpAny_pure ?_)
  show wpAny _ _ (call (.builtin "BaseException.__getattribute__") [.ref x, .str "__class__" t]) _ _ _
  refine wpAny_call (codeAny_call_builtin PySem.F.excAttr_ValueError.ga.plain PySem.F.entry_bexc_ga ?_)
  have y1 := PySem.F.args_bexc_ga (.ref x) (.str "__class__" t)
  refine @check_slot (model prog w) _ _ ⟨hp, g, dr, t + 1, os⟩ "BaseException.__getattribute__" "BaseException" "__getattribute__" (Value.ref x) [Value.str "__class__" t] [] _ (by decide +kernel) (by decide +kernel) sub y1 ?_
  unfold Builtin.«object.__getattribute__»
  refine wpAny_bind (wpAny_of_eq (a := ((Value.ref x : Value), [Value.str "__class__" t])) (by first | rfl | (simp only [slotArgs]; rfl)) ?_)
  refine wpAny_bind (wpAny_pure (wpAny_bind (ty.at (wpAny_bind (lf.at ?_)))))
  show wpAny _ _ (holding [Value.builtin "object.__class__"] (call (.builtin "getset_descriptor.__get__") [.builtin "object.__class__", .ref x, .ref D]) >>= ret) _ _ _
  refine wpAny_bind (wpAny_holding (wpAny_call (class_get (s := ⟨hp, g, dr, t + 1, os⟩) (ox := ox) (od := od) X I h.hm (wpAny_pure ?_))))
  show wpAny _ _ (handedOut (.ref D)) _ _ _
  rw [handedOut_of (v := .ref D) rfl]
  first
    | exact wpAny_pure (wpAny_pure hq)
    | exact wpAny_pure hq
    | exact wpAny_pure (wpAny_bind (wpAny_pure (wpAny_pure hq)))
theorem kit_exc (h : L2.ExcC K D) : KitX K (.ref x) (.ref D) (fun hp => InstAt hp x ox D od) where
  ty := fun _ _ _ I => I.type
  it := fun M hp X _ => by
    obtain ⟨cd, hc, _⟩ := any_some h.hd
    unfold clsIn at hc
    split at hc
    · rename_i o1 o2 o3 o4 ho
      exact fun _ _ _ _ kp q => by
        unfold isType loadHead
        exact wpAny_bind (wpAny_loadPart (kp _ _ (X _ _ ho)) (wpAny_pure q))
    · cases hc
  ne := (handS_kitx_exc (x := x) (ox := ox) h.hg h.hk h.hs h.hd h.ha h.hn h.ht h.hm).ne
  ca := fun X I k => class_of_exc h X I k
end
/-- isinstance(x, C), x a held exception -/
def rIsX (K : PySem.W.Frag) : List V → Hp → VK → Prop := fun xs H Q => ∃ (a D C : Addr) (d : Option Addr) (b : Bool), xs = [.ref a, .ref C] ∧ L2.ExcC K D ∧ H a = some (excO a (.ref D) d) ∧ (∀ dx, d = some dx → ∃ fs, H dx = some (.xd fs)) ∧ PySem.W.kitOne K (.ref D) (.ref C) = some b ∧ Q (.bl b) H
theorem call_isX {X : Cx} : CallR X (.builtin "isinstance") (rIsX X.K) := by
  intro pins s σ H xs us Q I r h
  obtain ⟨a, D, C, d, b, rfl, hC, e1, e2, e3, q⟩ := h
  obtain ⟨u1, u2, rfl, r1, r2⟩ := vals2 r
  obtain rfl : u1 = Value.ref a := r1
  obtain rfl : u2 = Value.ref C := r2
  obtain ⟨⟨o, vs, h1, h2, h3, h4⟩, _, _⟩ := I.hok a _ e1
  obtain ⟨oc, od, oda, osl⟩ := o
  dsimp only at h2 h3 h4
  subst h2 h3 h4
  have fin : ∀ tk, EP X pins σ Q (.bool b) { s with toks := tk } := fun tk => ⟨.bl b, H, I.tok tk, rfl, q⟩
  cases od with
  | none => exact PySem.W.kia_one (kit_exc (od := none) hC) I.kIn ⟨h1, rfl, rfl, trivial⟩ e3 (fun z => nomatch z) fin
  | some dx =>
    obtain ⟨fs, e4⟩ := e2 dx rfl
    obtain ⟨mA, ⟨ob, _, _, z, _⟩, _⟩ := I.hok dx _ e4
    exact PySem.W.kia_one (kit_exc (od := some ob) hC) I.kIn ⟨h1, rfl, rfl, z⟩ e3 (fun z => nomatch z) fin
section
variable {X : Cx} {c : Cn X.K} {W : WX} {e a b : Expr} {es : List Expr} {pos p : Pos} {f g : DV} {j k : Nat} {l : DL}
/-- .. with held exceptions -/
def ktX (Cs Es : List Str) (d e : D) : Option Bool := match d, e with
  | .xcp C _, .fn C' => if C ∈ Es ∧ C' ∈ Es then some (decide (C = C')) else none
  | .xcp _ _, _ => none
  | d, e => kt Cs d e
theorem cd_isiX {Cs Es : List Str} (hE : ∀ C ∈ Es, C ∈ Cs) (hk : KtF X.K c.ca Cs) : CallD c (fun xs H Q => (rIsi X.K xs H Q ∨ rIsiT X.K xs H Q) ∨ rIsX X.K xs H Q) (on2 (dIsi (ktX Cs Es))) := by
  have old := cd_isi (X := X) (c := c) (kt_ok hk)
  refine calld2 (fun d e k k' hk ⟨b, h1, h2⟩ => ⟨b, h1, hk _ h2⟩) fun B H v w d e Q k p i j q K => ?_
  obtain ⟨b, h1, h2⟩ := q
  by_cases hx : ∃ C fs, d = .xcp C fs
  · obtain ⟨C, fs, rfl⟩ := hx
    cases e with
    | fn C' =>
      have h1' : (if C ∈ Es ∧ C' ∈ Es then some (decide (C = C')) else none) = some b := h1
      by_cases m : C ∈ Es ∧ C' ∈ Es
      · rw [if_pos m] at h1'
        have fin : Q (.bl b) H := K _ B H _ (Step.refl p) (rv_val (.bl b)) h2
        have hb := hk.cc C' (hE _ m.2) C (hE _ m.1)
        have eb := Option.some.inj h1'
        subst eb
        cases j
        cases i with
        | xcp0 z hc => exact .inr ⟨_, _, _, none, _, rfl, hc, p.bh _ _ z, (fun _ y => nomatch y), hb, fin⟩
        | xcp1 z z2 hc r => exact .inr ⟨_, _, _, some _, _, rfl, hc, p.bh _ _ z, (fun dx y => by cases y; exact ⟨_, p.bh _ _ z2⟩), hb, fin⟩
      · rw [if_neg m] at h1'; cases h1'
    | _ => exact absurd h1 (by simp [ktX])
  · have h1' : kt Cs d e = some b := by
      cases d <;> first | exact h1 | exact absurd ⟨_, _, rfl⟩ hx
    exact .inl (old.2 B H [v, w] [d, e] Q k p (.cons i (.cons j .nil)) ⟨b, h1', h2⟩ K)
theorem er_isX {Cs Es : List Str} (m : Fm X W j) (hE : ∀ C ∈ Es, C ∈ Cs) (hk : KtF X.K c.ca Cs) (hm : X.mg "isinstance" = none) (ha : EA X c W (e :: es) l) (hg : Gl X "isinstance" := by rfl) (he : starEach (e :: es) X.env = (false, eval e X.env) :: starEach es X.env := by rfl) (hpl : (backTo pos (starEach es X.env)).any (·.1) = false := by rfl) : ER X c W (.Call (.Name "isinstance" p) (e :: es) [] pos) (rCall l (on2 (dIsi (ktX Cs Es)))) :=
  er_callB (r := fun xs H Q => (rIsi X.K xs H Q ∨ rIsiT X.K xs H Q) ∨ rIsX X.K xs H Q) (fun pins s σ H xs us Q I r q => q.elim (fun q => q.elim (call_isi pins s σ H xs us Q I r) (call_isiT pins s σ H xs us Q I r)) (call_isX pins s σ H xs us Q I r)) (cd_isiX hE hk) hg hm (by decide +kernel) ha (by decide) (by decide) he hpl
end
end Dv

set_option Elab.async false
set_option linter.all false
set_option maxRecDepth 100000
set_option maxHeartbeats 4000000
namespace Dv
open PySem PySem.Spec PyProof.Rows L2
/-! ### raise C("..") -/
structure ExcF (K : PySem.W.Frag) (mg : Str → Option Value) (ca : Str → Addr) (C : Str) : Prop where
  g : mg C = some (.ref (ca C))
  q : PySem.W.excIn K (ca C) [.type "ValueError", .type "Exception", .type "BaseException", .type "object"] "ValueError.__new__" = true
  kp : PySem.W.keepIn K (.ref (ca C)) = true
  b : PySem.W.subIn K (.ref (ca C)) (.type "BaseException") = some true
  t : PySem.W.typeIn K (.ref (ca C)) = some (.type "type")
def sRaise0 (C : Str) : DS := fun _ _ E => E ⟨C, []⟩
section
variable {X : Cx} {c : Cn X.K} {W : WX} {e : Expr} {pos p p2 pos2 : Pos} {f : DV} {j k : Nat}
theorem ss_raise0 {C t : Str} (m : Fm X W j) (F : ExcF X.K X.mg c.ca C) (hg : Gl X C := by rfl) (hd : (C == ("__debug__" : Str)) = false := by decide) : SS X c W (.Raise (some (.Call (.Name C p) [.Constant (.str t) k p2] [] pos2)) none pos) (sRaise0 C) := by
  refine ⟨fun ρ k k' E E' hk hE q => hE _ q, wkS (ps_raise m.calm m.tk (pmk_own PySem.F.excBase_ValueError F.q F.g F.kp (raises_own F.b F.t) hg hd)) ?_⟩
  rintro D σ H ⟨H0, B0, B, ρ, r, q⟩
  exact q _ none σ B H r.st ⟨rfl, .inl ⟨rfl, rfl⟩⟩
end
/-! ### defs with lambdas -/
def lamQ (x : Str) (st : Stmt) : Str := (envOfC x (defScope st) 0 0 .none).qual ++ "<lambda>"
structure LamF (K : PySem.W.Frag) (mg : Str → Option Value) (base : Heap) (ca : Str → Addr) (L : LamP) (x : Str) (st : Stmt) : Prop where
  ex : ∃ (cx P : Addr) (oc : Value) (od : Option Addr) (kV doc pm : Value) (an : Option Addr) (ct : Value) (osl : Array (Option Value)), K.lookup (ca x) = some ⟨oc, od, .func (PySem.W.fnOf x x (defArgs st) (defBody st) (defScope st) .none kV doc pm an (.ref cx) ct), osl⟩ ∧ PySem.W.codeIn K (.ref cx) x = true ∧
    LamX.TabB base mg cx P ∧ (P, lamQ x st) ∈ L.T ∧ ∀ p ∈ L.T, p.1 = P → p.2 = lamQ x st
  kp : PySem.W.keepIn K (.ref (ca x)) = true
section
variable {P : Program} {w : World} {K : PySem.W.Frag} {mg : Str → Option Value} {base : Heap} {c : Cn K} {L : LamP}
theorem fnd_ofC {x q : Str} {st : Stmt} {f : Addr} {N ps : List Str} {k : Nat} {sp : Sp} {oc : Value} {od : Option Addr} {kV doc pm cdv ct : Value} {an : Option Addr} {osl : Array (Option Value)} (lk : K.lookup f = some ⟨oc, od, .func (PySem.W.fnOf x q (defArgs st) (defBody st) (defScope st) .none kV doc pm an cdv ct), osl⟩) (hcd : PySem.W.codeIn K cdv q = true)
    (S : FnScope N ps (defScope st)) (len : ∀ vs H Q E, sp vs H Q E → vs.length = ps.length)
    (hbody : ∀ (A : Around) (outer : List Env) (s : Shared) (H : Hp) (vs : List V) (Q : VK) (E : L2.XK), Fm (FX P w K mg base N q st f cdv A outer s H E) (FW E) k → sp vs H Q E →
      ∃ t, PSs (FX P w K mg base N q st f cdv A outer s H E) (defBody st) t ∧ t { nx := fun _ H' => Q .non H', rt := Q } (L2.start N vs) H) : FnD P w K mg base (k + 1) f (PySem.W.fnOf x q (defArgs st) (defBody st) (defScope st) .none kV doc pm an cdv ct) ps sp := by
  refine ⟨len, fun A outer s H args us vs Q E hg hr e0 hb r hsp => ?_⟩
  have hl := len _ _ _ _ hsp
  have KX : K.In s.heap := e0.mod.kin.keeps fun b o e => (e0.bs b o e).1
  have lim : s.heap.NoLimit := e0.mod.nolimit.keeps fun b o e => (e0.bs b o e).1
  have hkind : ∀ y ∈ ps.zip us, (defScope st).names.lookup y.1 = some .local ∨ ((defScope st).names.lookup y.1 = some .cell ∧ ((cellsFrom (s.heap.objs.size + 1) (defScope st).names []).lookup y.1).isSome = true) := fun ⟨n, v⟩ hy => by
    rcases S.par n (List.of_mem_zip hy).1 with q | q
    · exact .inl q
    · exact .inr ⟨q, PySem.W.cellsFrom_some _ _ _ (.inl q)⟩
  refine codeAny_call_function hr.depth (KX _ _ lk) rfl S.co S.gen rfl (PySem.W.codeRec_of KX hcd) (hb _ _ _ _ ?_)
  refine wpAny_newFunctionEnv_cells S.kind hkind fun env he s1 x => ?_
  subst he
  refine ⟨lim.keeps x.toInCall.keep, codeAny_func ?_⟩
  obtain ⟨t, ht, hq⟩ := hbody A outer s H vs Q E (fm_of S (hr.deeper _) hg) hsp
  have I : Inv (FX P w K mg base N q st f cdv A outer s H E) [] (L2.start N vs) H s1 := inv_start S hr.hd e0 hl r x
  refine wpAny_mono (ht.run [] s1 (L2.start N vs) H _ I hq) (fun fl s' hs => ?_) fun e s' hs => hs
  cases fl with
  | ret u =>
    obtain ⟨v, σ', H', J, rv, q⟩ := hs
    exact ⟨v, H', J.os, J.bare, J.base, J.hok, rv, q⟩
  | next =>
    obtain ⟨σ', H', J, q⟩ := hs
    exact ⟨V.non, H', J.os, J.bare, J.base, J.hok, rfl, q⟩
  | brk => exact (let ⟨_, _, _, q⟩ := hs; q).elim
  | cont => exact (let ⟨_, _, _, q⟩ := hs; q).elim
/-- the reading: whatever the frame's cells are -/
def dfL (n : Nat) (b : List (Str × Addr) → DS) : DF := fun ds k E => ∀ tk, MnS (b tk) → dfS n (b tk) ds k E
theorem dfL_mn {n : Nat} {b : List (Str × Addr) → DS} : MnF (dfL n b) := fun ds k k' E E' hk hE q tk hm => dfS_mn hm ds k k' E E' hk hE (q tk hm)
theorem df_genL {x : Str} {st : Stmt} {N ps : List Str} {k : Nat} {b : List (Str × Addr) → DS} (hg : mg x = some (.ref (c.ca x))) (lf : LamF K mg base c.ca L x st) (S : FnScope N ps (defScope st))
    (hbody : ∀ (cdv : Value) (A : Around) (outer : List Env) (s : Shared) (H : Hp) (E : L2.XK), Fm (FX P w K mg base N x st (c.ca x) cdv A outer s H E) (FW E) k → LamC (FX P w K mg base N x st (c.ca x) cdv A outer s H E) L → SB (FX P w K mg base N x st (c.ca x) cdv A outer s H E) c (FW E) (defBody st) (b (FX P w K mg base N x st (c.ca x) cdv A outer s H E).env.cells)) : Df P w K mg base c (k + 1) x st ps (dfL N.length b) := by
  obtain ⟨cx, T, oc, od, kV, doc, pm, an, ct, osl, lk, hcd, tb, m1, m2⟩ := lf.ex
  refine ⟨hg, lf.kp, dfL_mn, kV, doc, pm, an, .ref cx, ct, ?_⟩
  refine fnd_ofC lk hcd S (fun vs H Q E ⟨B, ds, p, i, l, _⟩ => i.length.trans l) fun A outer s H vs Q E fm h => ?_
  obtain ⟨B, ds, p, i, l, q⟩ := h
  have hb := hbody (.ref cx) A outer s H E fm ⟨cx, T, tb, rfl, m1, m2⟩
  refine ⟨_, hb.ps, H, B, B, _, rep_start p i (by rw [i.length, l]; exact pre_len S), ?_⟩
  refine hb.mn _ ⟨fun _ => _, _, fun _ => False, fun _ => False⟩ _ _ _ ⟨fun ρ' hq σ' B' H' r' sm => ?_, fun r hq v B' H' st ro => ?_, fun ρ' hq => hq.elim, fun ρ' hq => hq.elim⟩ (fun xn hx => ?_) (q _ hb.mn)
  · exact hq V.non B' H' r'.st (rv_val .non)
  · exact hq v B' H' st ro
  · exact fun cls d σ' B' H' st xo => hx cls d B' H' st xo
end
/-! ### where a lambda stands in a def -/
def kidsE : Expr → List Expr
  | .BoolOp _ vs _ => vs
  | .BinOp a _ b _ => [a, b]
  | .UnaryOp _ a _ => [a]
  | .IfExp t a b _ => [t, a, b]
  | .Compare a _ bs _ => a :: bs
  | .Call f as ks _ => f :: as
  | .Attribute a _ _ => [a]
  | .Subscript a b _ => [a, b]
  | .Starred a _ => [a]
  | .List es _ => es
  | .Tuple es _ _ => es
  | .Lambda _ b _ _ => [b]
  | .ListComp e _ _ _ => [e]
  | _ => []
def kidsS : Stmt → List Expr
  | .Return (some e) _ => [e]
  | .Assign ts e _ => e :: ts
  | .AugAssign _ _ e _ => [e]
  | .For t i _ _ _ => [i, t]
  | .While t _ _ _ => [t]
  | .If t _ _ _ => [t]
  | .Expr e _ => [e]
  | _ => []
def subS : Stmt → List Stmt
  | .For _ _ b o _ => b ++ o
  | .While _ b o _ => b ++ o
  | .If _ b o _ => b ++ o
  | _ => []
def eAt (e : Expr) : List Nat → Expr
  | [] => e
  | i :: r => eAt ((kidsE e).getD i (.Constant .none 0 ⟨0, 0, 0, 0⟩)) r
def sAt (st : Stmt) : List Nat → Stmt
  | [] => st
  | i :: r => sAt ((subS st).getD i (.Pass ⟨0, 0, 0, 0⟩)) r
def exprAt (st : Stmt) (i : Nat) (ss es : List Nat) : Expr := match es with
  | [] => .Constant .none 0 ⟨0, 0, 0, 0⟩
  | k :: r => eAt ((kidsS (sAt ((defBody st).getD i (.Pass ⟨0, 0, 0, 0⟩)) ss)).getD k (.Constant .none 0 ⟨0, 0, 0, 0⟩)) r
def lamT (q : Str) : Expr → LamT
  | .Lambda ps b sc _ => ⟨q, ps, b, sc⟩
  | e => ⟨q, ⟨[], [], none, [], [], none, []⟩, e, { kind := .function, names := [], isGenerator := false, isCoroutine := false, more := [] }⟩
/-! ### the law's end, with tables -/
theorem end_callT {P : Program} {w : World} {K : PySem.W.Frag} {mg mb : Str → Option Value} {k : Nat} {fa a : Addr} {cs : List (Addr × Addr)} {fd : FuncData} {x : Str} {sp : Sp} {s1 : Shared} {vs : List Value} {ns : List Int} (KX : K.In s1.heap) (hm : s1.heap.Ns mainGlobals mg) (hb : s1.heap.Ns builtinsNs mb)
    (hbb : ∀ x : Str, x ≠ "__name__" → mb x = bootBuiltins x) (hlim : s1.heap.NoLimit) (hg : s1.gens = #[]) (hT : ∀ p ∈ cs, PySem.W.CodeHd s1.heap p.1 p.2 ∧ s1.heap.get? p.2 = some (PySem.W.tabObj #[])) (nT : ∀ p ∈ cs, K.lookup p.2 = none)
    (hbm : ∃ (bm : Addr) (ob : Obj), mg "__builtins__" = some (.ref bm) ∧ bm ≠ builtinsNs ∧ s1.heap.get? bm = some ob ∧ ob.cls = .type "module" ∧ ob.dict = some builtinsNs ∧ ob.data = .plain)
    (ha : s1.heap.get? a = some { cls := .type "list", data := .seq vs.toArray }) (hi : IntsAre vs ns) (hl : ns.length ≤ sizeLine) (hr : Room k callerA)
    (F : ∀ base : Heap, K.In base → base.Ns mainGlobals mg → (∀ p ∈ cs, LamX.TabB base mg p.1 p.2) → FnD P w K mg base k fa fd [x] sp) (hbind : ∀ (s : Shared) (u : Value), BindsTo s fd ⟨[u], []⟩ [(x, u)])
    (hsp : ∀ H : Hp, (∀ p ∈ cs, H p.2 = some (.tbl #[])) → (∀ f ob u, H f = some (.frz ob u) → ob.cls = .type "list") → SqL K H a (ns.map V.int) → sp [.ref a] H (fun v _ => v = .bl true) fun _ _ _ => False) :
    codeAny (model P w) callerA (.call (.ref fa) ⟨[.ref a], []⟩) (fun r s' => r = .ok (.ret (.bool true)) ∧ OldK s1.heap s'.heap ∧ s'.os = s1.os ∧ AllBare s'.gens) s1 := by
  have rv := vals_ints hi
  have isT : ∀ {b : Addr}, b ∈ cs.map (·.2) → s1.heap.get? b = some (PySem.W.tabObj #[]) ∧ K.lookup b = none := fun {b} m => by
    obtain ⟨p, hp, rfl⟩ := List.mem_map.mp m
    exact ⟨(hT p hp).2, nT p hp⟩
  have aT : a ∉ cs.map (·.2) := fun m => by
    have z := (isT m).1
    rw [ha] at z
    cases (congrArg Obj.cls (Option.some.inj z) : Value.type "list" = Value.none)
  generalize hS : scrH K a vs ns = S
  obtain ⟨H, hH⟩ : ∃ H : Hp, H = fun b => if b ∈ cs.map (·.2) then some (HO.tbl #[]) else S b := ⟨_, rfl⟩
  have hin : ∀ {b}, b ∈ cs.map (·.2) → H b = some (.tbl #[]) := fun {b} m => by rw [hH]; exact if_pos m
  have hout : ∀ {b}, b ∉ cs.map (·.2) → H b = S b := fun {b} m => by rw [hH]; exact if_neg m
  have tr : ∀ b u, S b = some u → b = a ∧ (K.lookup a).isNone = true ∧ u = .frz { cls := .type "list", data := .seq vs.toArray } (.lst (ns.map V.int)) := fun b u q => by rw [← hS] at q; exact scrH_some q
  have nA : ∀ {b : Addr}, b ≠ a → b ∉ cs.map (·.2) → H b = none := fun {b} n m => by
    rw [hout m]
    cases q : S b with
    | none => rfl
    | some u => exact absurd (tr b u q).1 n
  have out : ∀ {b : Addr} {o : Obj}, s1.heap.get? b = some o → H b = none → (hidT s1.heap H).get? b = some o := fun q n => hidT_get q n
  have nD : ∀ {b : Addr} {o : Obj}, s1.heap.get? b = some o → o.data ≠ .seq vs.toArray 0 → o ≠ PySem.W.tabObj #[] → H b = none := fun {b o} e h1 h2 => by
    by_cases m : b ∈ cs.map (·.2)
    · have z := (isT m).1
      rw [e] at z
      exact absurd (Option.some.inj z) h2
    · by_cases ba : b = a
      · subst ba
        rw [ha] at e
        cases e
        exact absurd rfl h1
      · exact nA ba m
  have nsK : ∀ {b : Addr} {m : Str → Option Value}, s1.heap.Ns b m → (hidT s1.heap H).Ns b m := fun {b m} ⟨o, es, ep, q, d, r⟩ =>
    ⟨o, es, ep, out q (nD q (fun z => by rw [d] at z; cases z) fun z => by rw [z] at d; cases d), d, r⟩
  have kin : K.In (hidT s1.heap H) := fun b o q => out (KX b o q) (by
    by_cases m : b ∈ cs.map (·.2)
    · rw [(isT m).2] at q; cases q
    · rw [hout m]
      cases z : S b with
      | none => rfl
      | some u =>
        obtain ⟨rfl, n, _⟩ := tr b u z
        rw [q] at n; cases n)
  have sq : SqL K H a (ns.map V.int) := by
    cases z : K.lookup a with
    | some o =>
      have q := KX a o z
      rw [ha] at q
      cases q
      exact .inr ⟨_, vs.toArray, _, z, rfl, rfl, rfl, by rw [List.size_toArray, hi.length]; exact hl, by simpa using rv⟩
    | none =>
      refine .inl (.inr ⟨{ cls := .type "list", data := .seq vs.toArray }, ?_⟩)
      rw [hout aT, ← hS]
      exact if_pos ⟨rfl, by rw [z]; rfl⟩
  have ok : HOk P w H s1.heap := fun b u q => by
    by_cases m : b ∈ cs.map (·.2)
    · rw [hin m] at q
      cases q
      exact (isT m).1
    · rw [hout m] at q
      obtain ⟨rfl, _, rfl⟩ := tr b u q
      exact ⟨ha, by rw [List.length_map]; exact hl, vs, _, rv, ha⟩
  have TB : ∀ p ∈ cs, LamX.TabB (hidT s1.heap H) mg p.1 p.2 := fun p hp => by
    obtain ⟨C, hP⟩ := hT p hp
    refine ⟨?_, ?_, fun z => ?_⟩
    · obtain ⟨o, us, file, tf, flags, tg, inF, text, tt, e1, r1, r2, r3, r4⟩ := C
      refine ⟨o, us, file, tf, flags, tg, inF, text, tt, out e1 (nD e1 (fun z => by rw [r2] at z; cases z) fun z => ?_), r1, r2, r3, r4⟩
      rw [z] at r1
      cases (show Value.none = Value.type "code" from r1)
    · obtain ⟨bm, ob, b1, b2, b3, b4, b5, b6⟩ := hbm
      have nG : bm ≠ mainGlobals := fun q => by
        obtain ⟨o, es, ep, e, hd, _⟩ := hm
        rw [q, e] at b3
        cases b3
        rw [hd] at b6; cases b6
      have nP : bm ≠ p.2 := fun q => by
        rw [q, hP] at b3
        cases b3
        cases b6
      exact ⟨bm, ob, b1, b2, nG, nP, out b3 (nD b3 (fun z => by rw [b6] at z; cases z) fun z => by rw [z] at b6; cases b6), b4, b5, b6⟩
    · obtain ⟨o, es, ep, e, hd, _⟩ := hm
      rw [z, hP] at e
      cases e
      cases hd
  obtain ⟨mc, l1, l2⟩ := hlim
  have md : Mod K mg (hidT s1.heap H) := ⟨kin, nsK hm, ⟨mb, nsK hb, hbb⟩, ⟨mc, nsK l1, l2⟩⟩
  have e0 : Env0 P w K mg (hidT s1.heap H) callerA [] s1 H := ⟨rfl, md, fun b o q => of_hidT q, Nat.le_of_eq (hidT_size _ _), trivial, fun b z => absurd (show b ∈ ([] : List Addr) from z) (by simp), ok, .of_eq hg⟩
  have frl : ∀ f ob u, H f = some (.frz ob u) → ob.cls = .type "list" := fun f ob u q => by
    by_cases m : f ∈ cs.map (·.2)
    · rw [hin m] at q; cases q
    · rw [hout m] at q
      obtain ⟨_, _, z⟩ := tr f _ q
      cases z; rfl
  refine codeAny_mono ((F _ kin (nsK hm) TB).run callerA [] s1 H ⟨[.ref a], []⟩ [.ref a] [.ref a] _ _ rfl hr e0 (hbind s1 (.ref a)) (.cons rfl .nil) (hsp H (fun p hp => hin (List.mem_map.mpr ⟨p, hp, rfl⟩)) frl sq)) fun r s' h => ?_
  cases r with
  | error e =>
    obtain ⟨_, _, _, _, _, _, _, _, _, _, _, _, z⟩ := h
    exact z.elim
  | ok fl =>
    cases fl with
    | next => exact h.elim
    | brk => exact h.elim
    | cont => exact h.elim
    | ret u =>
      obtain ⟨v, H', os, bare, un, ok', r', q⟩ := h
      obtain rfl : v = .bl true := q
      obtain rfl : u = Value.bool true := r'
      have nx : ∀ b : Addr, b ∉ ([] : List Addr) := fun b y => absurd y (by simp)
      have grown : ∀ {b : Addr}, b ∈ cs.map (·.2) → ∃ more : Array Value, s'.heap.get? b = some (PySem.W.tabObj more) := fun {b} m => by
        obtain ⟨more, z⟩ := un.tbls b #[] (hin m)
        exact ⟨_, ok' b _ z⟩
      have same : ∀ {b : Addr} {o : Obj}, b ∉ cs.map (·.2) → s1.heap.get? b = some o → s'.heap.get? b = some o := fun {b o} m z => by
        cases q : H b with
        | none => exact un.keep b o z q (nx b) (nx b)
        | some u =>
          have q1 := q
          rw [hout m] at q1
          obtain ⟨_, _, rfl⟩ := tr b u q1
          have g1 := (ok b _ q).1
          have g2 := (ok' b _ (un.frzs b _ _ q)).1
          rw [z] at g1; cases g1
          exact g2
      refine ⟨rfl, ⟨fun b o e => ?_, fun b o e => ?_⟩, os, bare⟩
      · by_cases m : b ∈ cs.map (·.2)
        · obtain ⟨more, hm2⟩ := grown m
          obtain ⟨p, hp, rfl⟩ := List.mem_map.mp m
          have hP := (isT m).1
          rw [hP] at e
          cases e
          exact .inr (.inl ⟨((hT p hp).1.tab hP).isCodeTable, rfl, #[], more, rfl, by rw [Array.empty_append]; exact hm2⟩)
        · exact .inl (same m e)
      · by_cases m : b ∈ cs.map (·.2)
        · obtain ⟨more, hm2⟩ := grown m
          exact ⟨_, hm2⟩
        · exact ⟨o, same m e⟩
/-- the law's code objects and tables -/
def tabsOf (K : PySem.W.Frag) (xs : List Str) : List (Addr × Addr) := xs.filterMap fun x => PySem.W.tabIn K x
theorem end_walkT {l : PySem.W.OpenLaw} {n k : Nat} {q : Program} {loose : List Str} {XP : (Str → Option Value) → Heap → Prop} {YP : World → Heap → Prop} {d : DefRec} {K : Params → PySem.W.Frag} {x : Str} (xs : List Str) (lm : Nat → LamT) (qs : List Str)
    (hn : l.most = some n) (hn2 : n ≤ 63) (hdf : d.params.defaults = []) (hr : Room k callerA) (hY : ∀ (w : World) (h : Heap), YP w h → (K w.params).In h)
    (hrec : ∀ x ∈ xs, ∃ dr, (recsOf q).find? (fun e => e.name == x) = some dr)
    (htab : ∀ w : World, ∃ cs : List (Addr × Addr), cs.length = qs.length ∧ (∀ p ∈ cs, ∃ x ∈ xs, PySem.W.tabIn (K w.params) x = some p) ∧ (∀ p ∈ cs, (K w.params).lookup p.2 = none) ∧
      ∀ (mg : Str → Option Value) (fa : Addr) (h : Heap), (K w.params).In h → h.Ns mainGlobals mg → mg d.name = some (.ref fa) →
      ∃ fd : FuncData, (∀ (s : Shared) (u : Value), BindsTo s fd ⟨[u], []⟩ [(x, u)]) ∧ ∀ base : Heap, (K w.params).In base → base.Ns mainGlobals mg → (∀ p ∈ cs, LamX.TabB base mg p.1 p.2) → FnD l.prog w (K w.params) mg base k fa fd [x] (spL (K w.params) ⟨(cs.map (·.2)).zip qs, lm⟩)) :
    PySem.W.WalkO q loose XP YP l.row.toRowW d [] (fun f vs => PySem.call f vs) := by
  refine Att.attach_callB hn hdf fun w _ s1 mg mb fa _ _ _ _ a vs ns G Y _ _ _ hmg hobj hints hlen _ hg => ?_
  have KX := hY w _ Y
  obtain ⟨cs, hlen2, hc1, hc2, hF⟩ := htab w
  obtain ⟨fd, hb, hF⟩ := hF mg fa _ KX G.T.g hmg
  have hl63 : ns.length ≤ 63 := Nat.le_trans hlen hn2
  refine end_callT KX G.T.g G.T.b G.T.builtins G.T.nolimit hg (fun p hp => ?_) hc2 G.T.bmain hobj hints (Nat.le_trans hl63 (by decide)) hr hF hb fun H hH frl hS => ⟨a, ns, rfl, hS, hl63, ⟨fun p hp => ?_, fun f ob u e M tk pm c' ctv eo => ?_⟩, fun _ => rfl⟩
  · obtain ⟨x, hx, ht⟩ := hc1 p hp
    obtain ⟨dr, hr⟩ := hrec x hx
    exact PySem.W.tab_of G.T KX hr ht
  · have hp' : p.1 ∈ cs.map (·.2) := (List.of_mem_zip hp).1
    obtain ⟨p', hp2, e⟩ := List.mem_map.mp hp'
    exact LamX.TabS.nil (by rw [← e]; exact hH p' hp2)
  · have z := frl f ob u e
    rw [eo] at z
    exact absurd (Value.type.inj z) (by decide +kernel)
end Dv

set_option Elab.async false
set_option linter.all false
set_option maxRecDepth 100000
set_option maxHeartbeats 4000000
namespace Dv
open PySem PySem.Spec PyProof.Rows L2
/-- the contract of a law with lambdas -/
theorem law_fnL {P : Program} {w : World} {K : PySem.W.Frag} {mg : Str → Option Value} {base : Heap} {ca : Str → Addr} {L : LamP} {x xb xd : Str} {st stb : Stmt} {fb : Addr} {N ps psb : List Str} {k kb n i : Nat} {o : Bool} {b : List (Str × Addr) → DS} {rest : List Stmt} {pd pb ps1 pc pa : Pos} {kVb docb pmb cdvb ctb : Value} {anb : Option Addr}
    {oc : Value} {od : Option Addr} {kV doc pm : Value} {an : Option Addr} {ct : Value} {osl : Array (Option Value)} {cx T : Addr} (lk : K.lookup (ca x) = some ⟨oc, od, .func (PySem.W.fnOf x x (defArgs st) (defBody st) (defScope st) .none kV doc pm an (.ref cx) ct), osl⟩) (hcd : PySem.W.codeIn K (.ref cx) x = true) (tb : LamX.TabB base mg cx T) (m1 : (T, lamQ x st) ∈ L.T) (m2 : ∀ p ∈ L.T, p.1 = T → p.2 = lamQ x st) (S : FnScope N ps (defScope st)) (hp : ps.length = 1) (hps : psb.length = 1) (hN : N.length = n + 1) (hi : N[i]? = some xd) (hi0 : 0 < i) (hx0 : ∃ x0, N[0]? = some x0 ∧ Vis (defScope st) x0 ∧ (x0 == ("__debug__" : Str)) = false ∧ (x0 == ("__classdict__" : Str)) = false ∧ defBody st = .Assign [.Name xd pd] (.Call (.Name xb pb) [.Name x0 pa] [] pc) ps1 :: rest)
    (hl : Loc (defScope st) xd) (hlf : (defScope st).names.lookup xd = some .local) (hgb : ∀ (cdv : Value) (A : Around) (outer : List Env) (s : Shared) (H : Hp) (E : L2.XK), Gl (FX P w K mg base N x st (ca x) cdv A outer s H E) xb) (hdb : (xb == ("__debug__" : Str)) = false)
    (hsw : ∀ (cdv : Value) (A : Around) (outer : List Env) (s : Shared) (H : Hp) (E : L2.XK) (x0 : Str), swapsWith (.Call (.Name xb pb) [.Name x0 pa] [] pc) (some (.Name xd pd)) ps1.line (FX P w K mg base N x st (ca x) cdv A outer s H E).env = pure false)
    (hse : ∀ (cdv : Value) (A : Around) (outer : List Env) (s : Shared) (H : Hp) (E : L2.XK) (x0 : Str), starEach [.Name x0 pa] (FX P w K mg base N x st (ca x) cdv A outer s H E).env = (false, eval (.Name x0 pa) (FX P w K mg base N x st (ca x) cdv A outer s H E).env) :: starEach [] (FX P w K mg base N x st (ca x) cdv A outer s H E).env)
    (mb : mg xb = some (.ref fb)) (kpb : PySem.W.keepIn K (.ref fb) = true) (FB : FnD P w K mg base kb fb (PySem.W.fnOf xb xb (defArgs stb) (defBody stb) (defScope stb) .none kVb docb pmb anb cdvb ctb) psb (spB K ca L o)) (hkb : kb ≤ k) (hbb : BindP xb stb psb [] psb.length id)
    (hrest : ∀ (cdv : Value) (A : Around) (outer : List Env) (s : Shared) (H : Hp) (E : L2.XK), Fm (FX P w K mg base N x st (ca x) cdv A outer s H E) (FW E) k → LamC (FX P w K mg base N x st (ca x) cdv A outer s H E) L → ∀ Pd : DrawP, SB (FX P w K mg base N x st (ca x) cdv A outer s H E) (cD K ca L Pd) (FW E) rest (b (FX P w K mg base N x st (ca x) cdv A outer s H E).env.cells))
    (hF : ∀ ns : List Int, ns.length ≤ 63 → ∀ tk, MnS (b tk) → b tk ((some (.val (.ro (ns.map .int))) :: List.replicate n none).set i (some (.val .drw))) ⟨fun _ => False, fun r => r = .val (.bl true), fun _ => False, fun _ => False⟩ (fun _ => False)) :
    FnD P w K mg base (k + 1) (ca x) (PySem.W.fnOf x x (defArgs st) (defBody st) (defScope st) .none kV doc pm an (.ref cx) ct) ps (spL K L) := by
  refine fnd_ofC lk hcd S (fun vs H Q E ⟨a, ns, e, _⟩ => by rw [e, hp]; rfl) fun A outer s H vs Q E m ⟨a, ns, e, hs, hlen, hL, kq⟩ => ?_
  have cdvE : ∃ cdv : Value, cdv = .ref cx := ⟨_, rfl⟩
  obtain ⟨cdv, ecd⟩ := cdvE
  rw [← ecd] at m ⊢
  subst e
  obtain ⟨x0, hN0, hv0, hd0, hc0, hbody⟩ := hx0
  have hr := hrest cdv A outer s H E m ⟨cx, T, tb, ecd, m1, m2⟩
  have pv0 : PE (FX P w K mg base N x st (ca x) cdv A outer s H E) (.Name x0 pa) (tVar 0) := pe_var hN0 hv0 hd0 hc0
  have call := pe_callF (p := pb) (pos := pc) (st := stb) m FB hkb (hgb cdv A outer s H E) mb kpb hbb (pa_cons pv0 pa_nil (hse cdv A outer s H E x0)) hdb (hse cdv A outer s H E x0) rfl
  have st0 := ps_set (pos' := pd) (pos := ps1) m.nd hi hl call (hsw cdv A outer s H E x0) (.inr hlf)
  refine ⟨_, hbody ▸ pss_cons st0 (pss_ex fun Pd => (hr Pd).ps), ?_⟩
  have h0 : (L2.start N [.ref a])[0]? = some (some (.ref a)) := rfl
  obtain ⟨B, hB1, hB2, hB3⟩ : ∃ B : Hp, Same B H ∧ (∀ b, L.mu b → B b = none) ∧ SqL K B a (ns.map V.int) := by
    classical
    refine ⟨fun b => if L.mu b then none else H b, fun b u z => ?_, fun b m => if_pos m, ?_⟩
    · have z' : (if L.mu b then none else H b) = some u := z
      by_cases m : L.mu b
      · rw [if_pos m] at z'; cases z'
      · rw [if_neg m] at z'; exact z'
    · have nm : ∀ u, H a = some u → (∀ ps, u ≠ .tbl ps) → ¬ L.mu a := fun u e n m => by
        obtain ⟨ps, z⟩ := hL.dm m
        rw [e] at z; exact n ps (Option.some.inj z)
      rcases hs with (h | ⟨o, h⟩) | h
      · exact .inl (.inl ((if_neg (nm _ h fun ps z => nomatch z)).trans h))
      · exact .inl (.inr ⟨o, (if_neg (nm _ h fun ps z => nomatch z)).trans h⟩)
      · exact .inr h
  refine ⟨_, h0, B, a, ns, ⟨hB1, hL, hB2⟩, rfl, hB3, hlen, fun Pd H' ls ho sm z1 z2 z3 n1 n2 n3 dr hL' => ?_⟩
  have p1 : Pre (cD K ca L Pd) B H' := ⟨sm, ⟨⟨n1, n2, n3, ls, 0, 0, dr⟩, hL'⟩, fun b m => by
    rcases m with (rfl | rfl | rfl) | m
    · exact z1
    · exact z2
    · exact z3
    · exact hB2 b m⟩
  have il : ∀ ns : List Int, IsL (cD K ca L Pd) B (ns.map V.int) (ns.map D.int) := fun ns => by
    induction ns with
    | nil => exact .nil
    | cons n ns ih => exact .cons (.int n) ih
  have r0 := rep_start (N := N) p1 (.cons (.ro hB3 (il ns)) .nil) (by rw [hN]; exact Nat.succ_le_succ (Nat.zero_le n))
  have hst : startD N.length [D.ro (ns.map .int)] = some (.val (.ro (ns.map .int))) :: List.replicate n none := by rw [hN]; rfl
  rw [hst] at r0
  have hil : i < N.length := (List.getElem?_eq_some_iff.mp hi).1
  have r1 := r0.setV (i := i) (v := .ref Pd.dd) (d := .drw) .drw
  refine ⟨Pd, H', B, B, _, r1, (hr Pd).mn _ ⟨fun _ => False, fun r => r = .val (.bl true), fun _ => False, fun _ => False⟩ _ (fun _ => False) _ ⟨fun _ z => z.elim, fun r e v B' H2 st ro => ?_, fun _ z => z.elim, fun _ z => z.elim⟩ (fun _ z => z.elim) (hF ns hlen _ (hr Pd).mn)⟩
  subst e
  cases ro
  exact kq H2

theorem tab_mk {K : PySem.W.Frag} {x : Str} {c P f : Addr} {oc cls : Value} {od dd : Option Addr} {fd : FuncData} {sl sl2 : Array (Option Value)} {vs : Array Value} (hn : PySem.W.nsIn K mainGlobals x = some (some (.ref f))) (hl : K.lookup f = some ⟨oc, od, .func fd, sl⟩) (hc : fd.code = .ref c)
    (hk : K.lookup c = some ⟨cls, dd, .fields vs, sl2⟩) (hv : vs[11]? = some (.ref P)) : PySem.W.tabIn K x = some (c, P) := by
  unfold PySem.W.tabIn
  rw [hn]
  dsimp only
  rw [hl]
  dsimp only
  rw [hc]
  dsimp only
  rw [hk]
  dsimp only
  rw [hv]
theorem tab_code {K : PySem.W.Frag} {x : Str} {c P f : Addr} {oc : Value} {od : Option Addr} {fd : FuncData} {sl : Array (Option Value)} (ht : PySem.W.tabIn K x = some (c, P)) (hn : PySem.W.nsIn K mainGlobals x = some (some (.ref f))) (hl : K.lookup f = some ⟨oc, od, .func fd, sl⟩) : fd.code = .ref c := by
  unfold PySem.W.tabIn at ht
  rw [hn] at ht
  dsimp only at ht
  rw [hl] at ht
  dsimp only at ht
  split at ht
  · rename_i c' hc
    rw [hc]
    split at ht
    · split at ht
      · cases ht; rfl
      · cases ht
    · cases ht
  · cases ht
/-! ### while draw['rest'] == 0 and draw['large'] != []: draw['rest'] = draw['large'].pop(0) -/
def sDrPull (i : Nat) : DS := fun ρ k _ => ρ[i]? = some (some (.val .drw)) ∧ k.nx ρ
section
variable {X : Cx} {ca : Str → Addr} {L : LamP} {P : DrawP} {W : WX} {j : Nat}
theorem int_shaped (n : Int) : SeqAt.shaped (.int n) = true := by
  unfold SeqAt.shaped
  simp [PyData.canLay0, PyData.depth]
theorem dr_zero {K : PySem.W.Frag} {H : Hp} {σ : L2.St} {i : Nat} {ls : List Int} {r t : Int} {Q : Bool → Hp → Prop} (h0 : σ[i]? = some (some (.ref P.dd))) (d : DrIs P H ls r t) (q : ∀ b, Q b H) : tTest (tOp (rEqD K) (tDGet (tVar i) (tC (.str "rest"))) (tC (.int 0))) σ H Q := by
  refine ⟨_, h0, P.dd, .int r, rfl, by have z := DGet.k (k := .inr "rest") d.d; rw [val_rest] at z; exact z, ?_⟩
  exact ⟨_, _, .int r, .int 0, int_shaped r, int_shaped 0, _, rfl, q _⟩
theorem ss_drPull {x : Str} {i k1 k2 k3 k4 k5 k6 : Nat} {p1 p2 p3 p4 p5 p6 p7 p8 p9 p10 p11 p12 p13 p14 p15 p16 p17 p18 apos cpos spos wpos : Pos} (m : Fm X W j) (hu : X.A.units + 64 < cLine) (hx : ∀ p, PE X (.Name x p) (tVar i)) (hs : ∀ y kk p2, NoSl (.Constant (.str y) kk p2) := by intro _ _ _ _ _; rfl)
    (hb : ∀ a b c d, attributeBase (.Subscript (.Name x a) (.Constant (.str "large") b c) d) "pop" X.env (eval (.Subscript (.Name x a) (.Constant (.str "large") b c) d) X.env) = eval (.Subscript (.Name x a) (.Constant (.str "large") b c) d) X.env := by intro _ _ _ _; rfl) (hm : M1Ok X (.Constant (.int 0) k5 p15) apos cpos := by exact ⟨rfl, rfl, rfl⟩)
    (hsw : swapsWith (.Call (.Attribute (.Subscript (.Name x p12) (.Constant (.str "large") k4 p13) p14) "pop" apos) [.Constant (.int 0) k5 p15] [] cpos) (some (.Subscript (.Name x p10) (.Constant (.str "rest") k3 p11) p16)) spos.line X.env = pure false := by rfl) :
    SS X (cD X.K ca L P) W (.While (.BoolOp .And [.Compare (.Subscript (.Name x p1) (.Constant (.str "rest") k1 p2) p3) [.Eq] [.Constant (.int 0) k6 p4] p5, .Compare (.Subscript (.Name x p6) (.Constant (.str "large") k2 p7) p18) [.NotEq] [.List [] p8] p9] p17) [.Assign [.Subscript (.Name x p10) (.Constant (.str "rest") k3 p11) p16] (.Call (.Attribute (.Subscript (.Name x p12) (.Constant (.str "large") k4 p13) p14) "pop" apos) [.Constant (.int 0) k5 p15] [] cpos) spos] [] wpos) (sDrPull i) := by
  have t1 := pt_cmpR (pos := p5) (op_eqD hu) (dr_get (p2 := p2) (pos := p3) (kk := k1) (key := "rest") (by omega) (hx p1) (hs _ _ _)) (pe_int (i := 0) (j := k6) (pos := p4)) (nomark _)
  have t2 := dr_some (kk := k2) (p := p6) (p2 := p7) (pos := p18) (pos2 := p9) (l1 := p8) hu (hx p6) (hs _ _ _)
  have hp := pe_drPop (kk := k4) (p := p12) (p2 := p13) (pos := p14) (k0 := k5) (p3 := p15) (apos := apos) (cpos := cpos) (by omega) (hx p12) (hs _ _ _) (hb _ _ _ _) hm
  have b1 := ps_dput (pos := spos) (pos' := p16) (by omega) (hx p10) (pe_str (x := "rest") (j := k3) (pos := p11)) hp hsw
  refine ⟨fun ρ k k' E E' hk hE q => ⟨q.1, hk.nx _ q.2⟩, wkS (ps_while m.po (pw_and t1 (pw_and1 t2)).pt (pss_one b1)) ?_⟩
  rintro D σ H ⟨H0, B0, Bs, ρ, r, hd, q⟩
  obtain ⟨v, e0, e1⟩ := r.sl i _ hd
  cases e1
  obtain ⟨⟨n1, n2, n3, ls, rr, t, d⟩, iL⟩ := r.pre.inv
  refine ⟨fun n σ' H' => σ' = σ ∧ Rep (cD X.K ca L P) H0 B0 Bs H' σ ρ ∧ ∃ ls r t, ls.length = n ∧ DrIs P H' ls r t, ⟨ls.length, rfl, r, ls, rr, t, rfl, d⟩, ?_⟩
  rintro n σ' H ⟨rfl, r, ls, rr, t, hl, d⟩
  refine dr_zero e0 d fun b => ?_
  cases b with
  | false =>
    rw [if_neg Bool.false_ne_true]
    exact q σ' Bs H r (Same.refl _)
  | true =>
    rw [if_pos rfl]
    refine dr_test e0 d fun H1 k1 k2 => ?_
    have hst : Step (cD X.K ca L P) Bs H Bs H1 := by
      refine ⟨fun _ _ h => h, fun a o e => k1 _ _ (r.pre.bh a o e), fun _ _ => rfl, fun a o e _ _ => k1 _ _ e, fun a e => ?_, ?_, r.pre.av⟩
      · cases z : H a with
        | none => exact absurd z e
        | some o => rw [k1 _ _ z]; exact fun z => nomatch z
      · refine (cD X.K ca L P).loc H H1 (fun a o _ e => k1 _ _ e) (fun a ob u e => ?_) r.pre.inv
        cases z : H a with
        | none => have := k2 a z _ e; cases this
        | some o => rw [k1 _ _ z] at e; rw [e]
    have r1 := r.goN hst
    have d1 : DrIs P H1 ls rr t := ⟨k1 _ _ d.d, k1 _ _ d.l, k1 _ _ d.c⟩
    cases ls with
    | nil =>
      exact q σ' Bs H1 r1 (Same.refl _)
    | cons m0 ls =>
      refine ⟨fun σ2 H2 => σ2 = σ' ∧ Rep (cD X.K ca L P) H0 B0 Bs H2 σ' ρ ∧ ∃ r t, DrIs P H2 ls r t, fun σ2 H2 ⟨a1, a2, r', t', a3⟩ => ⟨ls.length, by rw [← hl]; simp, a1, a2, ls, r', t', rfl, a3⟩, ?_⟩
      refine dr_pop e0 d1 ?_
      have d2 := d1.setL (ls' := ls) n1 n3 rfl
      have iL1 : invL L (upd H1 P.la (.lst (ls.map .int))) := hst.inv.2.upd d1.l nk_lst (fun ps z => nomatch z) fun ob w z => nomatch z
      have r2 := r1.mu (a := P.la) (o := .lst (ls.map .int)) (Or.inl (Or.inr (Or.inl rfl))) ⟨⟨n1, n2, n3, ls, rr, t, d2⟩, iL1⟩
      have z := DPut.k (k := .inr "rest") (v := .int m0) d2.d (kvD_len P rr t)
      rw [put_rest] at z
      refine ⟨_, e0, P.dd, _, rfl, z, rfl, r2.mu (a := P.dd) (Or.inl (Or.inl rfl)) ⟨⟨n1, n2, n3, ls, m0, t, d2.setD n1 n2⟩, iL1.upd d2.d nk_dK (fun ps z => nomatch z) fun ob w z => nomatch z⟩, m0, t, d2.setD n1 n2⟩
end
end Dv

set_option Elab.async false
set_option linter.all false
set_option maxRecDepth 100000
set_option maxHeartbeats 4000000
namespace Dv
open PySem PySem.Spec PyProof.Rows L2
/-! ### {(i, ..): v} -/
def tDisp1 (tk tv : TE) : TE := fun σ H Q => ∀ p, H p = none → tk σ (upd H p (.dT [])) fun x H1 => tv σ H1 fun y H2 => H2 p = some (.dT []) ∧ ∃ (ks : List Key) (b : Addr), x = .ref b ∧ H2 b = some (.tup (ks.map kV)) ∧ Q (.ref p) (upd H2 p (.dT (putK [] ks y)))
theorem pe_disp1 {X : Cx} {pos : Pos} {k v : Expr} {tk tv : TE} (hu : X.A.units < cLine) (hk : PE X k tk) (hv : PE X v tv) : PE X (.Dict [some k] [v] pos) (tDisp1 tk tv) := by
  refine ⟨fun pins s σ H Q I q => ?_⟩
  have hn := I.hok.fresh (Nat.le_refl s.heap.objs.size)
  have I1 := I.laid (a := s.heap.objs.size) (o := .dT []) (h' := s.heap.push { cls := .type "dict", data := .dict #[] }) (t' := s.toks) (fun _ _ q => Heap.get?_push_of_some _ q) (Nat.le_refl _) (dt_empty s.heap I.big)
  refine wpAny_Dict_any rfl rfl (by simp) (by simp) (pairTrees_cons_walk (thn (hk.run pins _ σ _ _ I1 (q _ hn)) fun u s1 ⟨x, H1, J1, rx, q1⟩ => thn (hv.run pins s1 σ H1 _ J1 q1) fun u2 s2 ⟨y, H2, J2, ry, e, ks, b, ex, eb, q2⟩ => pairTrees_nil_walk ?_))
  subst ex
  obtain rfl : u = Value.ref b := rx
  obtain ⟨z, hd, xs, rel, dd⟩ := dt_of J2.hok e
  unfold storeAll
  rw [List.forIn_cons]
  cases rel
  refine wpAny_bind (wpAny_bind (wpAny_dictSet_heap (hsz := Nat.zero_le _) (knd := tupleKind (mixKind X.prog X.w)) hu (key_of J2.hok eb) dd fun h' dd' hs => wpAny_pure ?_))
  simp only [List.forIn_nil]
  refine wpAny_pure ⟨.ref s.heap.objs.size, _, ?_, rfl, q2⟩
  obtain ⟨ob, es, ep, hq, h2, h3, h4, _, h5⟩ := dd'
  have put : KT H2 (putK [] ks y) (storedH [] ks b u2) := KT.put (.nil) ks eb ry
  refine d_write J2 (by rw [e]; exact True.intro) hs ⟨ob, hq⟩ ⟨?_, hd, _, put.keeps fun c ys ec => ?_, ob, es, ep, hq, h2, h3, h4, h5⟩
  · have := length_putK ([] : List (List Key × V)) ks y
    rw [List.length_nil] at this
    rw [sizeLine_eq]; omega
  · rw [upd_ne (ne_of ec e (fun z => nomatch z))]
    exact ec
theorem ints_tup {K : PySem.W.Frag} {c : Cn K} {B : Hp} : ∀ {vs : List V} {ns : List Int}, IsL c B vs (ns.map .int) → vs = (ns.map Sum.inl).map (kV : Key → V)
  | _, [], h => by cases h; rfl
  | _, n :: ns, h => by
    cases h with
    | cons r t =>
      cases r
      rw [ints_tup t]; rfl
def vDct1 (f g : DV) : DV := fun ρ k E => f ρ (fun d => g ρ (fun _ => (∃ ns : List Int, d = .tup (ns.map .int)) ∧ k .dct) E) E
theorem ev_dct1 {X : Cx} {c : Cn X.K} {W : WX} {a b : Expr} {pos : Pos} {f g : DV} (hu : X.A.units + 64 < cLine) (ha : EV X c W a f) (hb : EV X c W b g) : EV X c W (.Dict [some a] [b] pos) (vDct1 f g) := by
  refine ⟨fun ρ k k' E E' hk hE q => ha.mn ρ _ _ E E' (fun d q => hb.mn ρ _ _ E E' (fun e q => ⟨q.1, hk _ q.2⟩) hE q) hE q, wkE (pe_disp1 (by omega) ha.pe hb.pe) ?_⟩
  rintro σ H Q ⟨B, ρ, p, rp, q⟩
  intro a0 hn
  have s0 := Step.lay p hn (.dT [])
  refine ⟨B, ρ, s0.pre, rp, ha.mn _ _ _ _ _ (fun d hd x B1 H1 s1 i1 => ?_) (fun _ z => z.step s0) q⟩
  refine ⟨B1, ρ, s1.pre, rp.mono s1.b, hb.mn _ _ _ _ _ (fun e he y B2 H2 s2 i2 => ?_) (fun _ z => z.step (s0.trans s1)) hd⟩
  obtain ⟨⟨ns, rfl⟩, hk⟩ := he
  have st := (s0.trans s1).trans s2
  have e1 : H2 a0 = some (.dT []) := (s1.trans s2).out a0 _ upd_same (p.nmu hn) fun _ z => nomatch z
  have hb0 : B2 a0 = none := ((s1.trans s2).dom a0 (by rw [upd_same]; exact fun z => nomatch z)).trans (p.bnone hn)
  refine ⟨e1, ns.map Sum.inl, ?_⟩
  cases i1 with
  | tup h r =>
    have e2 := ints_tup r
    subst e2
    refine ⟨_, rfl, s2.bh _ _ (s2.b _ _ h), ?_⟩
    have nk : ¬ Kp (.dT ([] : List (List Key × V))) := fun m => by rcases m with ⟨φ, m⟩ | ⟨ob, u, m⟩ <;> cases m
    have s3 := st.put p (o := .dT (putK [] (ns.map Sum.inl) y)) hn hb0 ⟨_, e1, nk⟩
    exact hk _ _ _ (s3.keep hn p upd_same hb0) (.dctT upd_same)
/-- != of texts -/
def dNeS : D → D → (Bool → Prop) → Prop
  | .str x, .str y, k => k (!decide (x = y))
  | _, _, _ => False
section
variable {X : Cx} {c : Cn X.K} {W : WX} {a b : Expr} {pos : Pos} {f g : DV}
theorem opc_neS : OpC c rNe dNeS := by
  refine ⟨fun d e k k' hk q => ?_, ?_⟩
  · unfold dNeS at q ⊢
    split at q
    · exact hk _ q
    · exact q
  · intro B H x y d e Q k p hx hy q K
    unfold dNeS at q
    split at q
    · cases hx; cases hy
      refine ⟨rfl, ?_⟩
      rw [show decide (V.str _ = V.str _) = decide (_ = _) from decide_eq_decide.mpr ⟨fun z => V.str.inj z, fun z => by rw [z]⟩]
      exact K _ q
    · exact q.elim
theorem ev_neS (ha : EV X c W a f) (hb : EV X c W b g) : EV X c W (.Compare a [.NotEq] [b] pos) (bV (cBin f g dNeS)) := ev_cmp op_ne opc_neS ha hb (nomark _)
theorem eb_neS (ha : EV X c W a f) (hb : EV X c W b g) : EB X c W (.Compare a [.NotEq] [b] pos) (cBin f g dNeS) := eb_cmp op_ne opc_neS ha hb (nomark _)
end
end Dv

set_option Elab.async false
set_option linter.all false
set_option maxRecDepth 100000
set_option maxHeartbeats 4000000
namespace Dv
open PySem PySem.Spec PyProof.Rows L2
/-! ### small facts for the pure parts -/
theorem bits_le {j : Int} (h : j.natAbs < 2 ^ 60) : Builtin.Int.intBits j ≤ 64 := by
  unfold Builtin.Int.intBits
  split
  · exact Nat.zero_le _
  · rename_i hj
    have h0 : j.natAbs ≠ 0 := by
      intro z
      apply hj
      have : j = 0 := by omega
      rw [this]; rfl
    have := (Nat.log2_lt h0).mpr h
    omega
theorem mulok (i j : Int) (h : j.natAbs < 2 ^ 60) : IntMulOk i j := IntMulOk.of_right (bits_le h)
theorem mulokL (i j : Int) (h : i.natAbs < 2 ^ 60) : IntMulOk i j := IntMulOk.of_left (bits_le h)
theorem fmod_nn (i : Int) {n : Int} (h : 0 < n) : 0 ≤ i.fmod n := by rw [Int.fmod_eq_emod_of_nonneg _ (by omega)]; exact Int.emod_nonneg _ (by omega)
theorem fmod_lt (i : Int) {n : Int} (h : 0 < n) : i.fmod n < n := by rw [Int.fmod_eq_emod_of_nonneg _ (by omega)]; exact Int.emod_lt_of_pos _ h
theorem szl : (1000000 : Nat) ≤ sizeLine := by rw [sizeLine_eq]; decide
theorem fdiv_pos (a : Int) {b : Int} (h : 0 < b) : a.fdiv b = a / b := Int.fdiv_eq_ediv_of_nonneg _ (by omega)
theorem fmod_pos (a : Int) {b : Int} (h : 0 < b) : a.fmod b = a % b := Int.fmod_eq_emod_of_nonneg _ (by omega)
theorem lg {n : Int} (h : n.natAbs < 2 ^ 200) : n.natAbs.log2 < 9000 := by
  by_cases h0 : n.natAbs = 0
  · rw [h0]; decide
  · have := (Nat.log2_lt h0).mpr h
    omega
theorem lg2 {n : Int} (h : n.natAbs < 2 ^ 1000) : n.natAbs.log2 < 1920 := by
  by_cases h0 : n.natAbs = 0
  · rw [h0]; decide
  · have := (Nat.log2_lt h0).mpr h
    omega
theorem ix_nat {n : Nat} {i : Int} (h0 : 0 ≤ i) (h1 : i < n) : L2.ixN n i = some i.toNat := by
  unfold L2.ixN
  rw [if_pos h0, if_pos h1]
theorem ix_last (n : Nat) : L2.ixN (n + 1) (-1) = some n := by
  unfold L2.ixN
  rw [if_neg (by omega), if_pos (by omega)]
  congr 1
  omega
theorem all_map (f : Int → Int) (ns : List Int) : AllI (ns.map fun i => D.int (f i)) := fun d hd => by
  obtain ⟨i, _, rfl⟩ := List.mem_map.mp hd
  exact ⟨_, rfl⟩
/-! ### texts of trees -/
theorem join_le : ∀ {ts : List Str} {N : Nat}, (∀ t ∈ ts, Str.length t ≤ N) → (Str.join ", " ts).length ≤ ts.length * (N + 2)
  | [], _, _ => by simp [Str.join, Str.empty, Str.length]
  | [x], _, h => by have := h x List.mem_cons_self; simp [Str.join]; omega
  | x :: y :: r, N, h => by
    have ih := join_le (ts := y :: r) fun t ht => h t (List.mem_cons_of_mem _ ht)
    have hx := h x List.mem_cons_self
    have e : Str.join ", " (x :: y :: r) = x ++ ", " ++ Str.join ", " (y :: r) := rfl
    rw [e, Str.length_append, Str.length_append]
    have : (", " : Str).length = 2 := by decide +kernel
    simp only [List.length_cons] at ih ⊢
    rw [this]
    have e2 : (r.length + 1 + 1) * (N + 2) = (r.length + 1) * (N + 2) + (N + 2) := by rw [Nat.add_mul]; omega
    omega
/-- a tree of numbers, truths, None, sequences: all small; n: a bound of its text -/
inductive Pl : Nat → Nat → D → Prop
  | non {m n : Nat} : 4 ≤ n → Pl m n .non
  | bl {m n : Nat} (b : Bool) : 5 ≤ n → Pl m n (.bl b)
  | int {m n : Nat} (i : Int) : i.natAbs.log2 < 1920 → 1921 ≤ n → Pl m n (.int i)
  | intd {m n k : Nat} (i : Int) : 0 < k → i.natAbs < 10 ^ k → k ≤ 500 → k + 1 ≤ n → Pl m n (.int i)
  | tup {m n N : Nat} {ds : List D} : (∀ d ∈ ds, Pl m N d) → ds.length * (N + 2) + 3 ≤ n → Pl (m + 1) n (.tup ds)
  | lst {m n N : Nat} {ds : List D} : (∀ d ∈ ds, Pl m N d) → ds.length * (N + 2) + 3 ≤ n → Pl (m + 1) n (.lst ds)
theorem pl_all {m N : Nat} {ds : List D} (h : ∀ d ∈ ds, D.okd m d = true ∧ d.py.showable = true ∧ d.py.shown.length ≤ N) : okdL m ds = true ∧ PyData.showableAll (pyL ds) = true ∧ (∀ t ∈ PyData.shownAll (pyL ds), Str.length t ≤ N) ∧ (PyData.shownAll (pyL ds)).length = ds.length := by
  induction ds with
  | nil => simp [okdL, pyL, PyData.showableAll, PyData.shownAll]
  | cons d ds ih =>
    obtain ⟨a, b, c⟩ := h d List.mem_cons_self
    obtain ⟨a2, b2, c2, d2⟩ := ih fun e he => h e (List.mem_cons_of_mem _ he)
    refine ⟨by simp [okdL, a, a2], by simp [pyL, PyData.showableAll, b, b2], fun t ht => ?_, by simp [pyL, PyData.shownAll, d2]⟩
    simp only [pyL, PyData.shownAll, List.mem_cons] at ht
    rcases ht with rfl | ht
    · exact c
    · exact c2 t ht
theorem Pl.ok {m n : Nat} {d : D} (h : Pl m n d) : D.okd m d = true ∧ d.py.showable = true ∧ d.py.shown.length ≤ n := by
  have bnd : ∀ {ts : List Str} {N k : Nat}, (∀ t ∈ ts, Str.length t ≤ N) → ts.length = k → (tupleText ts).length ≤ k * (N + 2) + 3 ∧ (listText ts).length ≤ k * (N + 2) + 3 := fun {ts N k} c e => by
    have j := join_le c
    have h1 : ("(" : Str).length = 1 := by decide +kernel
    have h2 : (Str.ofString (if ts.length == 1 then ",)" else ")")).length ≤ 2 := by
      split <;> decide +kernel
    have h3 : ("[" : Str).length = 1 := by decide +kernel
    have h4 : ("]" : Str).length = 1 := by decide +kernel
    subst e
    constructor
    · unfold tupleText
      rw [Str.length_append, Str.length_append]
      omega
    · have sm : ∀ {us : List Str}, (∀ t ∈ us, Str.length t ≤ N) → (us.map (·.length)).sum ≤ us.length * N := fun {us} h => by
        induction us with
        | nil => simp
        | cons u us ih =>
          have := h u List.mem_cons_self
          have := ih fun t ht => h t (List.mem_cons_of_mem _ ht)
          simp only [List.map_cons, List.sum_cons, List.length_cons, Nat.add_mul]
          omega
      have z := listText_len_le ts
      have y := sm c
      rw [Nat.mul_add]
      omega
  induction h with
  | non hn => exact ⟨by simp [D.okd], by simp [D.py, PyData.showable], Nat.le_trans (by decide +kernel) hn⟩
  | bl b hn => exact ⟨by simp [D.okd], by simp [D.py, PyData.showable], Nat.le_trans (by cases b <;> decide +kernel) hn⟩
  | int i hi hn => exact ⟨by simp [D.okd], by simpa [D.py, PyData.showable] using hi, Nat.le_trans (PyProof.Rows.int_text_len_1921 hi) hn⟩
  | @intd _ _ k i h0 hi hk hn =>
    have h1 : i.natAbs.log2 < 1920 := by
      by_cases z : i.natAbs = 0
      · rw [z]; decide
      · refine (Nat.log2_lt z).mpr (Nat.lt_of_lt_of_le hi ?_)
        exact Nat.le_trans (Nat.pow_le_pow_right (by decide) hk) (by decide +kernel)
    refine ⟨by simp [D.okd], by simpa [D.py, PyData.showable] using h1, Nat.le_trans ?_ hn⟩
    show (PySem.Str.ofString (toString i)).length ≤ k + 1
    rw [PySem.ofString_length]; exact PySem.int_text_length_le10 h0 hi
  | tup h hn ih =>
    obtain ⟨a, b, c, e⟩ := pl_all ih
    exact ⟨by simpa [D.okd] using a, by simpa [D.py, PyData.showable] using b, Nat.le_trans (by simp only [D.py, PyData.shown]; exact (bnd c e).1) hn⟩
  | lst h hn ih =>
    obtain ⟨a, b, c, e⟩ := pl_all ih
    exact ⟨by simpa [D.okd] using a, by simpa [D.py, PyData.showable] using b, Nat.le_trans (by simp only [D.py, PyData.shown]; exact (bnd c e).2) hn⟩
theorem okd_up : ∀ {m : Nat} {d : D}, D.okd m d = true → ∀ {k : Nat}, m ≤ k → D.okd k d = true := by
  intro m d
  induction m generalizing d with
  | zero => intro h k _; cases d <;> first | (cases k <;> simp_all [D.okd]) | (simp [D.okd] at h)
  | succ m ih =>
    intro h k hk
    obtain ⟨k, rfl⟩ : ∃ k', k = k' + 1 := ⟨k - 1, by omega⟩
    have lst : ∀ {ds : List D}, okdL m ds = true → okdL k ds = true := fun {ds} => by
      induction ds with
      | nil => intro _; simp [okdL]
      | cons d ds ih2 =>
        intro z
        simp only [okdL, Bool.and_eq_true] at z ⊢
        exact ⟨ih z.1 (by omega), ih2 z.2⟩
    cases d <;> simp only [D.okd] at h ⊢ <;> first | exact lst h | exact h
theorem Pl.okd60 {m n : Nat} {d : D} (h : Pl m n d) (hm : m ≤ 60) : D.okd 60 d = true := okd_up h.ok.1 hm
/-- repr, said of such a tree -/
theorem dRepr_pl {m n : Nat} {d : D} (h : Pl m n d) (hm : m ≤ 60) (hn : n ≤ 1000000) (k : Rv → Prop) (hk : k (.val (.str d.py.shown))) : dRepr d k :=
  ⟨⟨h.okd60 hm, h.ok.2.1, Nat.le_trans h.ok.2.2 (Nat.le_trans hn szl)⟩, hk⟩
theorem dRepr_plL {m n : Nat} {d : D} (h : Pl m n d) (hm : m ≤ 60) (hn : n ≤ 16777216) (k : Rv → Prop) (hk : k (.val (.str d.py.shown))) : dRepr d k :=
  ⟨⟨h.okd60 hm, h.ok.2.1, Nat.le_trans h.ok.2.2 (by rw [sizeLine_eq]; exact hn)⟩, hk⟩
/-! ### == -/
mutual
theorem eqv_refl : ∀ (n : Nat) (d : D), D.okd n d = true → PyData.eqv d.py d.py = true
  | _, .non, _ => by simp [D.py, PyData.eqv]
  | _, .bl b, _ => by cases b <;> simp [D.py, PyData.eqv]
  | _, .int i, _ => by simp [D.py, PyData.eqv]
  | _, .str x, _ => by simp [D.py, PyData.eqv]
  | n + 1, .tup ds, h => by
    simp only [D.py, PyData.eqv]
    exact eqvL_refl n ds (by simpa [D.okd] using h)
  | n + 1, .lst ds, h => by
    simp only [D.py, PyData.eqv]
    exact eqvL_refl n ds (by simpa [D.okd] using h)
  | n + 1, .ro ds, h => by
    simp only [D.py, PyData.eqv]
    exact eqvL_refl n ds (by simpa [D.okd] using h)
  | 0, .tup ds, h => by simp [D.okd] at h
  | 0, .lst ds, h => by simp [D.okd] at h
  | 0, .ro ds, h => by simp [D.okd] at h
  | _, .obj _ _, h => by simp [D.okd] at h
  | _, .fn _, h => by simp [D.okd] at h
  | _, .typ _, h => by simp [D.okd] at h
  | _, .drw, h => by simp [D.okd] at h
  | _, .opq _, h => by simp [D.okd] at h
  | _, .dct, h => by simp [D.okd] at h
  | _, .flt _, h => by simp [D.okd] at h
  | _, .lam _ _, h => by simp [D.okd] at h
  | _, .xcp _ _, h => by simp [D.okd] at h
theorem eqvL_refl : ∀ (n : Nat) (ds : List D), okdL n ds = true → PyData.eqvAll (pyL ds) (pyL ds) = true
  | _, [], _ => by simp [pyL, PyData.eqvAll]
  | n, d :: ds, h => by
    simp only [okdL, Bool.and_eq_true] at h
    simp [pyL, PyData.eqvAll, eqv_refl n d h.1, eqvL_refl n ds h.2]
end
theorem dEq_same {d : D} {k : Bool → Prop} (h : D.okd 60 d = true) (hk : k true) : dEq d d k := ⟨⟨h, h⟩, by unfold D.eqb; rw [eqv_refl 60 d h]; exact hk⟩
theorem dNe_same {d : D} {k : Bool → Prop} (h : D.okd 60 d = true) (hk : k false) : dNe d d k := ⟨⟨h, h⟩, by unfold D.eqb; rw [eqv_refl 60 d h]; exact hk⟩
end Dv
namespace Dv
open PySem PySem.Spec PyProof.Rows L2
theorem forD_rng {g : DG} {f : DS} {k : Ks} {E : Exn → Prop} (lo : Int) (m : Nat) (I : Nat → Sl → Prop) (h : ∀ i ρ, i < m → I i ρ → ∀ κ : Sl → Prop, (∀ ρ2, I (i + 1) ρ2 → κ ρ2) → g (.int (lo + (i : Nat))) ρ fun ρ' => f ρ' ⟨κ, k.rt, k.nx, κ⟩ E) (h0 : ∀ ρ, I m ρ → k.nx ρ) (ρ : Sl) (i0 : I 0 ρ) : forD g f ((List.range m).map fun i => .int (lo + (i : Nat))) ρ k E := by
  have key : ∀ (l s : Nat) (ρ : Sl), s + l = m → I s ρ → forD g f ((List.range' s l).map fun i => .int (lo + (i : Nat))) ρ k E := by
    intro l
    induction l with
    | zero => intro s ρ e i; have : s = m := by omega
              subst this; exact h0 ρ i
    | succ l ih =>
      intro s ρ e i
      rw [List.range'_succ, List.map_cons]
      exact h s ρ (by omega) i _ fun ρ2 i2 => ih (s + 1) ρ2 (by omega) i2
  rw [List.range_eq_range']
  exact key m 0 ρ (by omega) i0
theorem forD_rngD {g : DG} {f : DS} {k : Ks} {E : Exn → Prop} {lo hi : Int} {m : Nat} (hm : (hi - lo).toNat = m) (I : Nat → Sl → Prop) (h : ∀ i ρ, i < m → I i ρ → ∀ κ : Sl → Prop, (∀ ρ2, I (i + 1) ρ2 → κ ρ2) → g (.int (lo + (i : Nat))) ρ fun ρ' => f ρ' ⟨κ, k.rt, k.nx, κ⟩ E) (h0 : ∀ ρ, I m ρ → k.nx ρ) (ρ : Sl) (i0 : I 0 ρ) : forD g f (rngD lo hi) ρ k E := by
  unfold rngD
  rw [hm]
  exact forD_rng lo m I h h0 ρ i0
/-! ### slices -/
theorem cut_to {xs : List D} {i : Int} (h0 : 0 ≤ i) (h1 : i ≤ xs.length) : cutD xs none (some i) = xs.take i.toNat := by
  unfold cutD HT.sIx
  simp
  split
  · omega
  · congr 1
    omega
theorem cut_from {xs : List D} {i : Int} (h0 : 0 ≤ i) (h1 : i ≤ xs.length) : cutD xs (some i) none = xs.drop i.toNat := by
  unfold cutD HT.sIx
  simp
  have : ¬ i < 0 := by omega
  rw [if_neg this]
  have e : min i.toNat xs.length = i.toNat := by omega
  rw [e, List.take_of_length_le (by rw [List.length_drop]; omega)]
theorem cut_last {xs : List D} (h : xs ≠ []) : cutD xs none (some (-1)) = xs.dropLast := by
  unfold cutD HT.sIx
  have : 0 < xs.length := List.length_pos_iff.mpr h
  simp [List.dropLast_eq_take]
  congr 1
  omega
end Dv

set_option Elab.async false
set_option linter.all false
set_option maxRecDepth 100000
set_option maxHeartbeats 4000000
namespace Dv
open PySem PySem.Spec PyProof.Rows L2
/-! ### an own error whose __init__ says super().__init__(text); self.f = p -/
abbrev supBody (tx f a : Str) (kk : Nat) (p0 p1 p2 p3 p4 p5 p6 p7 p8 p9 : Pos) : List Stmt :=
  [.Expr (.Call (.Attribute (.Call (.Name "super" p0) [] [] p1) "__init__" p2) [.Constant (.str tx) kk p3] [] p4) p5, .Assign [.Attribute (.Name "self" p6) f p7] (.Name a p8) p9]
/-- what the written part says of the class and of its __init__ -/
structure SupC (K : PySem.W.Frag) (P : Program) (C : Addr) (f : Str) : Prop where
  cls : ∃ nm q N bs bm sn sub ab col dd k0 k1 k2 k3 k5, K.lookup C = some (excClassObj nm q C N bs bm true sn sub ab col dd k0 k1 k2 k3 k5 "ValueError.__new__") ∧ PySem.HandSPX.refsVE bm = true ∧ PySem.W.alongIn K "__init__" bm = some (some (.builtin "ValueError.__init__"))
  sa : PySem.W.findIn K (.ref C) "__setattr__" = some (some (.builtin "object.__setattr__"))
  nf : PySem.W.findIn K (.ref C) f = some none
  own : PySem.W.mroIn K C (.ref C) = some true
  ve : PySem.W.subIn K (.ref C) (.type "ValueError") = some true
  st : PySem.W.nsIn K cStatics "thirdparty.any" = some none
  ini : ∃ (fI cc cda : Addr) (tx a qual : Str) (kk : Nat) (p0 p1 p2 p3 p4 p5 p6 p7 p8 p9 : Pos) (params : Arguments) (ar : Arg) (scope : Scope) (oc kV doc pm ct ccl cl : Value) (od an cdd cld : Option Addr) (osl ccs csl : Array (Option Value)) (vs : Array Value) (file : Str) (tf : Tok),
    PySem.W.findIn K (.ref C) "__init__" = some (some (.ref fI)) ∧ PySem.W.typeIn K (.ref fI) = some (.type "function") ∧
    K.lookup fI = some ⟨oc, od, .func (PySem.W.ksFn "__init__" qual params (supBody tx f a kk p0 p1 p2 p3 p4 p5 p6 p7 p8 p9) scope .none kV doc pm an (.ref cda) ct cc), osl⟩ ∧ PySem.W.codeIn K (.ref cda) qual = true ∧
    K.lookup cda = some ⟨ccl, cdd, .fields vs, ccs⟩ ∧ vs[2]? = some (.str file tf) ∧ ((P.main.file : Str) == file) = true ∧ (P.main.scope.names.lookup ("super" : Str)).isSome = false ∧
    K.lookup cc = some ⟨cl, cld, .cell (some (.ref C)), csl⟩ ∧ (params.posonlyargs ++ params.args).head? = some ar ∧ ar.arg = "self" ∧
    (∀ (s : Shared) (e : Addr) (u : Value), BindsTo s (PySem.W.ksFn "__init__" qual params (supBody tx f a kk p0 p1 p2 p3 p4 p5 p6 p7 p8 p9) scope .none kV doc pm an (.ref cda) ct cc) ⟨[.ref e, u], []⟩ [("self", .ref e), (a, u)]) ∧
    scope.names.lookup ("super" : Str) = some .globalImplicit ∧ scope.names.lookup ("__class__" : Str) = some .free ∧ scope.names.lookup ("self" : Str) = some .local ∧ scope.names.lookup a = some .local ∧ (a == ("self" : Str)) = false ∧ (a == ("__debug__" : Str)) = false ∧
    (p2.endLine == p4.line) = true ∧ (∀ x ∈ scope.names, x.2 ≠ .cell) ∧ scope.isCoroutine = false ∧ scope.isGenerator = false ∧ scope.kind = .function
section
open PySem.W PySem.Calls
variable {P : Program} {w : World} {A : Around} {K : Frag} {h : Heap} {g : Array GenState} {d : Drawn} {t : Nat} {os : OsState} {C fI e t0 : Addr} {f : Str} {u : Value} {R : Result → Shared → Prop} {mg mb : Str → Option Value}
theorem sup_run (X : K.In h) (hlim : h.NoLimit) (hroom : A.depth < recursionLimit) (he : h.get? e = some (PySem.HandSPX.excO C t0)) (S : SupC K P C f) (hmg : h.Ns mainGlobals mg) (hKe : K.lookup e = none) (hms : mg "super" = none) (hmb : h.Ns builtinsNs mb) (hbs : mb "super" = some (.type "super"))
    (iC : findIn K (.ref C) "__init__" = some (some (.ref fI)))
    (hq : ∀ h' tk dx t1, (∀ b o, b ≠ e → h.get? b = some o → h'.get? b = some o) → h.objs.size ≤ dx → dx ≠ e → h'.get? e = some ({ cls := .ref C, dict := some dx, data := .fields #[.ref t1, .none, .none, .none, .bool false, .none] } : Obj) →
      h'.Ns1 dx (fun y => if y = f then some u else none) → R (.ok (.ret .none)) ⟨h', g, d, tk, os⟩) : codeAny (model P w) A (.call (.ref fI) ⟨[.ref e, u], []⟩) R ⟨h, g, d, t, os⟩ := by
  obtain ⟨fI', cc, cda, tx, a, qual, kk, p0, p1, p2, p3, p4, p5, p6, p7, p8, p9, params, ar, scope, oc, kV, doc, pm, ct, ccl, cl, od, an, cdd, cld, osl, ccs, csl, vs, file, tf, iC', tI, lk, hcd, hcode, hvs, hfile, htop, hcell, hp, har, hbind, hks, hkc, hka, hkp, nea, nda, hpl, hnc, hco, hgen, hk⟩ := S.ini
  obtain rfl : fI = fI' := by
    rw [iC] at iC'
    cases iC'
    rfl
  obtain ⟨nm, q, N, bs, bm, sn, sub, ab, col, dd, k0, k1, k2, k3, k5, hC, hbm, hal⟩ := S.cls
  have hcl : clsIn K C = some { name := nm, bases := bs, mro := .ref C :: bm, ns := N, qualname := q, hasDict := true, slotNames := sn, subclasses := sub, abstract := ab, collection := col, hasDel := false } := by unfold clsIn; rw [hC] <;> rfl
  have neC : e ≠ C := fun z => by
    have y := X _ _ hC
    rw [← z, he] at y
    cases y
  refine ks_codeAny_call_defAt (fd := ksFn "__init__" qual params (supBody tx f a kk p0 p1 p2 p3 p4 p5 p6 p7 p8 p9) scope .none kV doc pm an (.ref cda) ct cc) hroom (X _ _ lk) rfl hlim (codeRec_of X hcd) rfl (hbind _ e u) hnc
    (fun x hx => by
      simp only [List.mem_cons, List.mem_nil_iff, or_false] at hx
      rcases hx with rfl | rfl
      · exact hka
      · exact hkp) (fun h1 hns hk1 => ?_) hco hgen hk
  have X1 : K.In h1 := X.keeps hk1
  have he1 := hk1 _ _ he
  have hv1 : (fun y => ([("self", Value.ref e), (a, u)] : List (Str × Value)).reverse.lookup y) "self" = some (.ref e) := by
    show List.lookup ("self" : Str) [(a, u), ("self", Value.ref e)] = _
    have : (("self" : Str) == a) = false := by
      have z : ¬ a = ("self" : Str) := by simpa using nea
      simpa using fun y => z y.symm
    rw [List.lookup_cons, this]
    rfl
  have hv2 : (fun y => ([("self", Value.ref e), (a, u)] : List (Str × Value)).reverse.lookup y) a = some u := by
    show List.lookup a [(a, u), ("self", Value.ref e)] = _
    rw [List.lookup_cons, beq_self_eq_true]
  have hL : h.objs.size ≠ e := Nat.ne_of_gt (Heap.lt_size he)
  have hin : interactive (ksEnv qual scope h.objs.size fI (.ref cda) cc) = false := by
    unfold interactive
    show (scope.kind == .module && _) = false
    rw [hk]; rfl
  refine ks_wpAt_execs_cons (ks_wpAt_Expr_any ?_ hin rfl)
  refine ks_wpAt_MethodCall (pl := do return (← importBound (.Call (.Name "super" p0) [] [] p1) (ksEnv qual scope h.objs.size fI (.ref cda) cc)).getD true) ?_ (by
    show (do
      let ov ← attributeBase (.Call (.Name "super" p0) [] [] p1) "__init__" (ksEnv qual scope h.objs.size fI (.ref cda) cc) (eval (.Call (.Name "super" p0) [] [] p1) (ksEnv qual scope h.objs.size fI (.ref cda) cc))
      standAt p2.atName
      methodCall (.Call (.Name "super" p0) [] [] p1) "__init__" p2 p4 (ksEnv qual scope h.objs.size fI (.ref cda) cc) ov 1 (backTo p4 (starEach [.Constant (.str tx) kk p3] (ksEnv qual scope h.objs.size fI (.ref cda) cc))) []) = _
    unfold methodCall methodCallPos
    rw [show methodCallForm 1 (backTo p4 (starEach [.Constant (.str tx) kk p3] (ksEnv qual scope h.objs.size fI (.ref cda) cc))) [] = true from rfl]
    simp only [hpl, Bool.not_true, Bool.or_true, if_true, pure_bind]
    rfl)
  refine ks_wpAt_super_base hks hkc rfl rfl (X1 _ _ lk) rfl hp rfl (X1 _ _ hcode) rfl hvs hfile htop ?_
  refine ks_loadName_global hk hks (loadGlobal_builtin (hmg.keeps hk1) hms (hmb.keeps hk1) hbs ⟨rfl, ?_⟩)
  refine wpAny_loadName_free hk hkc rfl ⟨_, X1 _ _ hcell, rfl⟩ ?_
  rw [har]
  refine wpAny_loadName_local hk hka hns hv1 ?_
  refine ks_wpAny_isType_cls (X1 _ _ hC) rfl ⟨rfl, ?_⟩
  refine ks_wpAny_call_super (X1 _ _ hC) rfl he1 rfl (fun c z => by cases z) (looks_mroIn X1 S.own) (fun h2 e2 k2 => ?_)
  have X2 : K.In h2 := X1.keeps k2
  have he2 := k2 _ _ he1
  have hsub : Looks (model P w) h2 (isInstance (.ref e) (.type "ValueError")) true := (InstAt.type (od := none) ⟨he2, rfl, rfl, trivial⟩).andThen (looks_subIn X2 S.ve)
  have hdr : ((Value.ref C :: bm).dropWhile (· != .ref C)).drop 1 = bm := by simp [List.dropWhile_cons]
  refine kxs_getMethod kxs_ValueError (B := "ValueError") (i := "ValueError.__init__") e2 (looks_opaque X2 S.st) (l₀ := Value.ref C :: bm) (fun A Q E s k q => wpAny_bind ((looks_clsIn X2 hcl) A _ E s k (wpAny_pure q))) hdr X2 hal hsub neC rfl ?_
  have he3 := Heap.get?_push_of_some (kxs_mw "ValueError.__init__" e) he2
  have hu3 : (h2.push (kxs_mw "ValueError.__init__" e)).get? h2.objs.size = some (kxs_mw "ValueError.__init__" e) := Heap.get?_push_at rfl rfl
  have X3 : K.In (h2.push (kxs_mw "ValueError.__init__" e)) := X2.keeps fun b o z => Heap.get?_push_of_some _ z
  refine kxs_callWith (i := "ValueError.__init__") (x := e) rfl ?_
  refine evalArgs_plain (spliced_cons (Constant_str (k := kk) (pos := p3) (spliced_nil ⟨hu3, ?_⟩)))
  refine wpAny_call (codeAny_of_tree ?_)
  show wpAny _ _ (callAny (.ref h2.objs.size) ⟨[Value.str tx _], []⟩) _ _ _
  simp only [callAny]
  refine wpAny_bind (wpAny_load hu3 ?_)
  simp only [kxs_mw, show (Value.type "method-wrapper" == Value.type "method" || Value.type "method-wrapper" == Value.type "builtin_function_or_method" || Value.type "method-wrapper" == Value.type "method-wrapper") = true by decide, if_true]
  refine KFB.if_so (by decide) ?_
  refine wpAny_bind (check_bound_init F.excBase_ValueError.toExcCallFacts (X3 _ _ hC) he3 rfl ?_)
  refine wpAny_bind (wpAny_pure (wpAny_pure ?_))
  refine ⟨plainId_quiet F.excBase_ValueError.init.plain _, codeAny_builtin F.excBase_ValueError.initEntry ?_⟩
  refine exc_init_tree (cls := .ref C) (t0 := t0) (dv := none) (c2 := .none) (c3 := .none) (b4 := .bool false) he3 (by rw [sizeLine_eq]; show 1 ≤ _; decide) fun h4 k4 he4 _ => ?_
  have X4 : K.In h4 := fun b o z => k4 b o (fun y => by
    rw [y, hKe] at z
    cases z) (X3 b o z)
  have hns4 : h4.Ns h.objs.size (fun y => ([("self", Value.ref e), (a, u)] : List (Str × Value)).reverse.lookup y) := by
    obtain ⟨o, es, ep, ho, r⟩ := hns
    exact ⟨o, es, ep, k4 _ _ hL (Heap.get?_push_of_some _ (k2 _ _ ho)), r⟩
  refine ks_wpAt_execs_cons (wpAt_of_wpAny (plainObj_wpAny_Assign_Attribute ?_ rfl))
  refine wpAny_Name (wpAny_loadName_local hk hkp hns4 hv2 ?_) nda
  refine wpAny_Name (wpAny_loadName_local hk hka hns4 hv1 ?_) (by decide)
  refine set_plain X4 (ox := { cls := .ref C, dict := none, data := .fields #[.ref _, .none, .none, .none, .bool false, .none] }) (od := none) ⟨he4, rfl, rfl, trivial⟩ S.sa ?_
  refine PySem.HandSPX.exc_osa X4 he4 hcl (show PySem.HandSPX.refsVE (.ref C :: bm) = true from hbm) rfl S.nf (fun h5 tk dx k5 dn dne hx hn => ?_)
  refine wpAt_of_wpAny ?_
  rw [execs]
  refine wpAny_pure ?_
  refine hq h5 tk dx _ (fun b o hb z => k5 b o hb (k4 b o hb (Heap.get?_push_of_some _ (k2 _ _ (hk1 _ _ z))))) (Nat.le_trans (Nat.le_of_lt hns4.lt) dn) dne hx hn
end
end Dv

set_option Elab.async false
set_option linter.all false
set_option maxRecDepth 100000
set_option maxHeartbeats 4000000
namespace Dv
open PySem PySem.Spec PyProof.Rows L2
/-! ### C(p) for such an error; raise C(p) -/
/-- what is known of the class -/
structure ErrF (K : PySem.W.Frag) (P : Program) (mg : Str → Option Value) (ca : Str → Addr) (C f : Str) : Prop where
  s : SupC K P (ca C) f
  g : mg C = some (.ref (ca C))
  kp : PySem.W.keepIn K (.ref (ca C)) = true
  b : PySem.W.subIn K (.ref (ca C)) (.type "BaseException") = some true
  t : PySem.W.typeIn K (.ref (ca C)) = some (.type "type")
  ns : mg "super" = none
section
variable {X : Cx} {C : Addr} {f x : Str} {e1 : Expr} {ta : TA} {p pos : Pos} {k : Nat}
theorem pmk_sup (S : SupC X.K X.prog C f) (R : Raises X (.ref C)) (kC : PySem.W.keepIn X.K (.ref C) = true) (gC : X.mg x = some (.ref C)) (ns : X.mg "super" = none) (hr : Room (k + 1) X.A) (hg : Gl X x) (ha : PA X [e1] ta)
    (hdb : (x == ("__debug__" : Str)) = false := by decide) (he : starEach [e1] X.env = (false, eval e1 X.env) :: starEach [] X.env := by rfl) (hpl : (backTo pos (starEach [] X.env)).any (·.1) = false := by rfl) :
    PMk X (.Call (.Name x p) [e1] [] pos) (fun σ H Q => ta σ H fun vs H1 => ∃ y, vs = [y] ∧ ∀ dx, H1 dx = none → Q (.ref C) (some dx) (upd H1 dx (.xd [(f, y)]))) := by
  intro pins s σ H Q I h
  obtain ⟨nm, q, N, bs, bm, sn, sub, ab, col, dd, k0, k1, k2, k3, k5, hC, hbm, hal⟩ := S.cls
  obtain ⟨fI, iC, tI⟩ : ∃ fI, PySem.W.findIn X.K (.ref C) "__init__" = some (some (.ref fI)) ∧ PySem.W.typeIn X.K (.ref fI) = some (.type "function") := by
    obtain ⟨fI, _, _, _, _, _, _, _, _, _, _, _, _, _, _, _, _, _, _, _, _, _, _, _, _, _, _, _, _, _, _, _, _, _, _, _, _, iC, tI, _⟩ := S.ini
    exact ⟨fI, iC, tI⟩
  refine wpAny_Call_Name_kw (ld_glob I hg gC ?_ hdb)
  refine PySem.W.callWith_K (h₀ := X.base) I.ok.mod.kin kC (thn (ha.run pos pins s σ H _ I h) fun us s1 ⟨vs, H1, I1, r1, y, ev, qq⟩ => ⟨I1.kIn, ?_⟩) he hpl
  subst ev
  cases r1 with
  | @cons _ u _ us' ry rn =>
    cases rn
    show wpAny _ _ (call (.ref C) [u]) _ _ _
    obtain ⟨hp, g, dr, tk, os⟩ := s1
    have hsz : hp.objs.size ≤ hp.objs.size + 1 := Nat.le_succ _
    have hn : H1 (hp.objs.size + 1) = none := I1.hok.fresh hsz
    have kk : ∀ b o, hp.get? b = some o → ((hp.push (PySem.W.kdv_tup [u])).push (PySem.HandSPX.excO C hp.objs.size)).get? b = some o := fun b o e => Heap.get?_push_of_some _ (Heap.get?_push_of_some _ e)
    have hget : ((hp.push (PySem.W.kdv_tup [u])).push (PySem.HandSPX.excO C hp.objs.size)).get? (hp.objs.size + 1) = some (PySem.HandSPX.excO C hp.objs.size) := by heap_get
    have KX : X.K.In ((hp.push (PySem.W.kdv_tup [u])).push (PySem.HandSPX.excO C hp.objs.size)) := I1.kIn.keeps kk
    have bk2 := fun b o e => kk b o (I1.bk b o e)
    have hKe : X.K.lookup (hp.objs.size + 1) = none := by
      cases z : X.K.lookup (hp.objs.size + 1) with
      | none => rfl
      | some o => exact absurd (Heap.lt_size (I1.kIn _ _ z)) (Nat.not_lt.mpr hsz)
    obtain ⟨mb, hb1, hb2⟩ := I1.mod.blt
    have hms : mb "super" = some (.type "super") := (hb2 "super" (by decide)).trans (by first | boot_by_name | rfl | kernel_rfl)
    refine wpAny_call (PySem.HandSPX.call_own F.excBase_ValueError (fun Y => PySem.HandSPX.refsVE_contains Y bm hbm) (I1.kIn _ _ hC) (PySem.W.looks_findIn I1.kIn iC) (fun self => PySem.W.bind_fn I1.kIn self tI) (by rw [sizeLine_eq]; show 1 ≤ _; decide) ?_)
    refine sup_run KX (I1.mod.nolimit.keeps bk2) (by have := (hr.make C [u] []).dp; omega) hget S (I1.mod.glob.keeps bk2) hKe ns (hb1.keeps bk2) hms iC (fun h' tk' dx t1 kp dn dne hx hns => ⟨rfl, ?_⟩)
    obtain ⟨G, g1', g2'⟩ := restrict h' fun b => decide (b ≠ hp.objs.size + 1)
    have gk : ∀ b, b ≠ hp.objs.size + 1 → G.get? b = h'.get? b := fun b hb => g1' b (decide_eq_true hb)
    have ge : G.get? (hp.objs.size + 1) = none := g2' _ (by simp)
    have nha : ∀ {b : Addr} {o : Obj}, hp.get? b = some o → b ≠ hp.objs.size + 1 := fun {b o} z => Nat.ne_of_lt (Nat.lt_of_lt_of_le (Heap.lt_size z) hsz)
    have dn1 : hp.objs.size ≤ dx := Nat.le_trans hsz (Nat.le_trans (Nat.le_of_lt (Heap.lt_size hget)) dn)
    have hnd : H1 dx = none := I1.hok.fresh dn1
    have J : Inv X pins σ (upd H1 dx (.xd [(f, y)])) ⟨G, g, dr, tk', os⟩ :=
      I1.laid (t' := tk') (a := dx) (o := .xd [(f, y)]) (h' := G) (fun b o z => by rw [gk b (nha z)]; exact kp b o (nha z) (kk b o z)) dn1
        ⟨_, hns.at fun o z => (gk dx dne).trans z, relO_put (fs := []) ry fun g => True.intro⟩
    refine ⟨hp.objs.size + 1, _, _, ⟨G, g, dr, tk', os⟩, _, .ref C, some dx, rfl, J, fun b o z => ?_, ge, hx, ⟨rfl, rfl⟩, rfl, rfl, ?_, rfl, I1.bare, R, qq dx hnd⟩
    · by_cases hba : b = hp.objs.size + 1
      · rw [hba, ge] at z
        cases z
      · exact (gk b hba).symm.trans z
    · rw [upd_ne (Ne.symm dne)]; exact hn
end
/-- raise C(d): the error bears d by the name fld -/
def sRaise1 (C fld : Str) (g : DL) : DS := fun ρ _ E => g (viewB ρ) (fun ds => ∃ d, ds = [d] ∧ E ⟨C, [(fld, d)]⟩) E
section
variable {X : Cx} {c : Cn X.K} {W : WX} {e1 : Expr} {pos pos2 p : Pos} {g : DL} {j k : Nat}
theorem ss_raise1 {C f : Str} (m : Fm X W (j + 1)) (F : ErrF X.K X.prog X.mg c.ca C f) (ha : EA X c W [e1] g) (hg : Gl X C := by rfl) (hd : (C == ("__debug__" : Str)) = false := by decide)
    (he : starEach [e1] X.env = (false, eval e1 X.env) :: starEach [] X.env := by rfl) (hpl : (backTo pos2 (starEach [] X.env)).any (·.1) = false := by rfl) : SS X c W (.Raise (some (.Call (.Name C p) [e1] [] pos2)) none pos) (sRaise1 C f g) := by
  refine ⟨fun ρ k k' E E' hk hE q => ha.mn _ _ _ E E' (fun ds ⟨d, e, q⟩ => ⟨d, e, hE _ q⟩) hE q, wkS (ps_raise m.calm m.tk (pmk_sup F.s (raises_own F.b F.t) F.kp F.g F.ns m.room hg ha.pa hd he hpl)) ?_⟩
  rintro D σ H ⟨H0, B0, B, ρ, r, q⟩
  obtain ⟨Bp, pp, sm, l, rv⟩ := r.lend
  refine ⟨Bp, _, pp, rv, ha.mn _ _ _ _ _ (fun ds hd vs B1 H1 s il => ?_) (fun x hx => hx.rep r sm l) q⟩
  obtain ⟨d, rfl, q⟩ := hd
  cases il with
  | @cons v _ vs' _ i t =>
    cases t
    refine ⟨v, rfl, fun dx hn => ?_⟩
    have hb : B1 dx = none := by
      cases z : B1 dx with
      | none => rfl
      | some o => rw [s.bh dx o z] at hn; cases hn
    have st1 := r.outB sm l s
    have h0 : H0 dx = none := by
      cases z : H0 dx with
      | none => rfl
      | some o => exact absurd hn (st1.th dx (by rw [z]; exact fun y => nomatch y))
    have st2 := st1.trans (Step.lay s.pre hn (.xd [(f, v)]))
    exact q _ _ σ _ _ (st2.keep h0 r.p0 upd_same hb) ⟨rfl, .inr ⟨dx, _, rfl, upd_same, .cons (i.mono (Same.new hb)) .nil⟩⟩
end
end Dv

set_option Elab.async false
set_option linter.all false
set_option maxRecDepth 100000
set_option maxHeartbeats 4000000
namespace Dv
open PySem PySem.Spec PyProof.Rows L2
/-! ### error.f of a held error -/
def tXg (K : PySem.W.Frag) (n : Str) (te : TE) : TE := fun σ H Q => te σ H fun x H1 => ∃ (a C dd : Addr) (fs : List (Str × V)) (v : V), x = .ref a ∧ H1 a = some (excO a (.ref C) (some dd)) ∧ XfC K C ∧ PySem.W.findIn K (.ref C) n = some none ∧ H1 dd = some (.xd fs) ∧ fs.lookup n = some v ∧ Q v H1
theorem pe_xg {X : Cx} {e : Expr} {te : TE} {pos : Pos} {n : Str} (he : PE X e te) (hb : attributeBase e n X.env (eval e X.env) = eval e X.env := by rfl) : PE X (.Attribute e n pos) (tXg X.K n te) := by
  refine ⟨fun pins s σ H Q I h => ?_⟩
  refine attr_of hb (thn (he.run pins s σ H _ I h) fun u s1 hh => ?_)
  obtain ⟨x, H1, I1, rx, a, C, dd, fs, v, ex, ha, T, hno, ed, l, q⟩ := hh
  subst ex
  obtain rfl : u = Value.ref a := rx
  have hA : ObjOk X.prog X.w H1 s1.heap a (.ext fun h => ∃ (o : Obj) (vs : Array Value), h.get? a = some o ∧ o.cls = .ref C ∧ o.dict = some dd ∧ o.data = .fields vs) := I1.hok a _ ha
  obtain ⟨oe, vs, e1, e2, e3, e4⟩ := hA.1
  have hx : ObjOk X.prog X.w H1 s1.heap dd (.xd fs) := I1.hok dd _ ed
  obtain ⟨mA, hns, hr⟩ := hx
  obtain ⟨od, ho, hl⟩ := lookIn_ns hns
  obtain ⟨u, hu, ru⟩ := RelO.some_of (v := v) (o := mA n) (by rw [← l]; exact hr n)
  have J : PySem.W.InstAt s1.heap a oe C (some od) := ⟨e1, e2, by unfold PySem.W.notCls; rw [e4] <;> rfl, by rw [e3]; exact ho⟩
  exact PySem.HandSPX.exc_get I1.kIn J T.ga T.gg T.exC (PySem.W.findObj_own T.hdC hno rfl (by rw [hl, hu])) (handed_of ru) ⟨v, H1, I1.tok _, ru, q⟩
/-- the classes whose errors may be asked for x -/
structure XfF (K : PySem.W.Frag) (ca : Str → Addr) (Ls : List Str) (x : Str) : Prop where
  xf : ∀ C ∈ Ls, XfC K (ca C)
  no : ∀ C ∈ Ls, PySem.W.findIn K (.ref (ca C)) x = some none
def dXf (f : DV) (Ls : List Str) (x : Str) : DV := fun ρ k E => f ρ (fun d => ∃ C fs z, d = .xcp C fs ∧ C ∈ Ls ∧ fs.lookup x = some z ∧ k z) E
section
variable {X : Cx} {c : Cn X.K} {W : WX} {e : Expr} {pos : Pos} {f : DV}
theorem ev_xf {Ls : List Str} {x : Str} (F : XfF X.K c.ca Ls x) (ha : EV X c W e f) (hb : attributeBase e x X.env (eval e X.env) = eval e X.env := by rfl) : EV X c W (.Attribute e x pos) (dXf f Ls x) := by
  refine ⟨fun ρ k k' E E' hk hE q => ha.mn ρ _ _ E E' (fun d ⟨C, fs, z, h1, h2, h3, h4⟩ => ⟨C, fs, z, h1, h2, h3, hk _ h4⟩) hE q, wkE (pe_xg ha.pe hb) ?_⟩
  rintro σ H Q ⟨B, ρ, p, rp, q⟩
  refine ⟨B, ρ, p, rp, ha.mn _ _ _ _ _ (fun d hd v B1 H1 s1 i1 => ?_) (fun _ z => z) q⟩
  obtain ⟨C, fs, z, rfl, h2, h3, h4⟩ := hd
  cases i1 with
  | xcp0 h o => simp at h3
  | xcp1 h ho o r =>
    obtain ⟨y, h5, h6⟩ := r.lookup h3
    exact ⟨_, _, _, _, y, rfl, s1.bh _ _ h, F.xf C h2, F.no C h2, s1.bh _ _ ho, h5, h4 y B1 H1 s1 h6⟩
end
/-! ### math.lcm -/
def dLcm : D → D → (Rv → Prop) → Prop
  | .int i, .int j, k => i.natAbs < 2 ^ 64 ∧ j.natAbs < 2 ^ 64 ∧ k (.val (.int ((Nat.lcm i.natAbs j.natAbs : Nat) : Int)))
  | _, _, _ => False
def rLcm : List V → Hp → VK → Prop := fun vs H Q => ∃ a b : Int, vs = [.int a, .int b] ∧ a.natAbs < 2 ^ 64 ∧ b.natAbs < 2 ^ 64 ∧ Q (.int ((Nat.lcm a.natAbs b.natAbs : Nat) : Int)) H
section
variable {X : Cx} {c : Cn X.K} {W : WX} {e : Expr} {es : List Expr} {pos p : Pos} {l : DL} {j : Nat}
theorem cr_lcm : CallR X (.builtin "math.lcm") rLcm := by
  intro pins s σ H vs us Q I r h
  obtain ⟨a, b, rfl, ha, hb, q⟩ := h
  obtain ⟨t, u, rfl⟩ := Vals.int2 r
  exact PySem.W.mc_lcm ha hb fun _ => ⟨.int _, H, I.tok _, ⟨_, rfl⟩, q⟩
theorem cd_lcm : CallD c rLcm (on2 dLcm) := by
  refine calld2 (fun d e k k' hk q => ?_) fun B H v w d e Q k p i j q K => ?_
  · unfold dLcm at q ⊢
    split at q
    · exact ⟨q.1, q.2.1, hk _ q.2.2⟩
    · exact q.elim
  · unfold dLcm at q
    split at q
    · cases i; cases j
      exact ⟨_, _, rfl, q.1, q.2.1, K _ B H _ (Step.refl p) (rv_val (.int _)) q.2.2⟩
    · exact q.elim
theorem er_lcm (m : Fm X W j) (hm : X.mg "lcm" = some (.builtin "math.lcm")) (ha : EA X c W (e :: es) l) (hg : Gl X "lcm" := by rfl) (he : starEach (e :: es) X.env = (false, eval e X.env) :: starEach es X.env := by rfl) (hpl : (backTo pos (starEach es X.env)).any (·.1) = false := by rfl) : ER X c W (.Call (.Name "lcm" p) (e :: es) [] pos) (rCall l (on2 dLcm)) :=
  er_callM cr_lcm cd_lcm hg hm ha (by decide) he hpl
end
/-- what super() finds -/
theorem sup_along {K : PySem.W.Frag} {C : Addr} {i : String} {nm q : Str} {N : Addr} {bs bm : List Value} {sn : List Str} {sub : List Value} {ab : Bool} {col : Option Bool} {dd : Option Addr} {k0 k1 k2 k3 k5 : Option Value} (hC : K.lookup C = some (excClassObj nm q C N bs bm true sn sub ab col dd k0 k1 k2 k3 k5 "ValueError.__new__"))
    (h : PySem.W.ks_superIn K C C "__init__" = some (some (.builtin i))) : PySem.W.alongIn K "__init__" bm = some (some (.builtin i)) := by
  have hcl : PySem.W.clsIn K C = some { name := nm, bases := bs, mro := .ref C :: bm, ns := N, qualname := q, hasDict := true, slotNames := sn, subclasses := sub, abstract := ab, collection := col, hasDel := false } := by unfold PySem.W.clsIn; rw [hC] <;> rfl
  unfold PySem.W.ks_superIn at h
  rw [hcl, Option.bind_some, show ((Value.ref C :: bm).dropWhile (· != .ref C)).drop 1 = bm by simp [List.dropWhile_cons]] at h
  exact h
end Dv

set_option Elab.async false
set_option linter.all false
set_option maxRecDepth 100000
set_option maxHeartbeats 4000000
namespace Dv
open PySem PySem.Spec PyProof.Rows L2
/-! ### == by an own class's own __eq__ -/
structure EqC (K : PySem.W.Frag) (C : Addr) (f : Addr) : Prop where
  fi : PySem.W.findIn K (.ref C) "__eq__" = some (some (.ref f))
  fn : PySem.W.isFn K (.ref f) = true
  nf : ∀ T ∈ UsD, PySem.W.subIn K (.type T) (.ref C) = some false
/-- C's own __eq__, and what it does -/
structure Dq (P : Program) (w : World) (K : PySem.W.Frag) (mg : Str → Option Value) (base : Heap) (c : Cn K) (j : Nat) (C q : Str) (st : Stmt) (F : DF) : Prop where
  mn : MnF F
  ok : ∃ (f : Addr) (kV doc pm : Value) (an : Option Addr) (cdv ct : Value), EqC K (c.ca C) f ∧ FnD P w K mg base j f (PySem.W.fnOf "__eq__" q (defArgs st) (defBody st) (defScope st) .none kV doc pm an cdv ct) ["self", "other"] (spD c 2 F)
  bd : ∀ (kV doc pm : Value) (an : Option Addr) (cdv ct : Value) (s : Shared) (u v : Value), BindsTo s (PySem.W.fnOf "__eq__" q (defArgs st) (defBody st) (defScope st) .none kV doc pm an cdv ct) ⟨[u, v], []⟩ [("self", u), ("other", v)]
def OpCS {K : PySem.W.Frag} (c : Cn K) (r : R2) (op : D → D → (Bool → Prop) → Prop) : Prop :=
  (∀ d e (k k' : Bool → Prop), (∀ z, k z → k' z) → op d e k → op d e k') ∧
  ∀ B H x y d e (Q : VK) (k : Bool → Prop), Pre c B H → Is c B x d → Is c B y e → op d e k → (∀ b B' H', Step c B H B' H' → k b → Q (.bl b) H') → r x y H Q
/-- C(..) == e -/
def dEqO (C : Str) (F : DF) : D → D → (Bool → Prop) → Prop := fun d e k => (∃ fs, d = .obj C fs) ∧ ((∃ gs, e = .obj C gs) ∨ ∃ T ∈ UsD, e.tn = some T) ∧ F [d, e] (fun r => ∃ b, r = .val (.bl b) ∧ k b) (fun _ => False)
section
variable {X : Cx} {c : Cn X.K} {W : WX} {a b : Expr} {pos : Pos} {f g : DV} {j k : Nat}
theorem ev_cmpS {op : CmpOp} {r : R2} {od : D → D → (Bool → Prop) → Prop} (ho : OpR X (compareOp op) r) (hd : OpCS c r od) (ha : EV X c W a f) (hb : EV X c W b g) (hm : behindInMarks op b = false) : EV X c W (.Compare a [op] [b] pos) (bV (cBin f g od)) := by
  refine ⟨bV_mn (cbin_mn ha hb hd.1), wkE (pe_cmpR ho ha.pe hb.pe hm) ?_⟩
  rintro σ H Q ⟨B, ρ, p, rp, q⟩
  refine ⟨B, ρ, p, rp, ha.mn _ _ _ _ _ (fun d hd' x B1 H1 s1 i1 => ?_) (fun _ z => z) q⟩
  refine ⟨B1, ρ, s1.pre, rp.mono s1.b, hb.mn _ _ _ _ _ (fun e he y B2 H2 s2 i2 => ?_) (fun x z => z.step s1) hd'⟩
  exact hd.2 B2 H2 x y d e Q _ s2.pre (i1.mono s2.b) i2 he fun b B3 H3 s3 hk => hk _ B3 H3 ((s1.trans s2).trans s3) (.bl b)
theorem eb_cmpS {op : CmpOp} {r : R2} {od : D → D → (Bool → Prop) → Prop} (ho : OpR X (compareOp op) r) (hd : OpCS c r od) (ha : EV X c W a f) (hb : EV X c W b g) (hm : behindInMarks op b = false) : EB X c W (.Compare a [op] [b] pos) (cBin f g od) := by
  refine ⟨cbin_mn ha hb hd.1, wkT (pt_cmpR ho ha.pe hb.pe hm) ?_⟩
  rintro σ H Q ⟨B, ρ, p, rp, q⟩
  refine ⟨B, ρ, p, rp, ha.mn _ _ _ _ _ (fun d hd' x B1 H1 s1 i1 => ?_) (fun _ z => z) q⟩
  refine ⟨B1, ρ, s1.pre, rp.mono s1.b, hb.mn _ _ _ _ _ (fun e he y B2 H2 s2 i2 => ?_) (fun x z => z.step s1) hd'⟩
  exact hd.2 B2 H2 x y d e _ _ s2.pre (i1.mono s2.b) i2 he fun b B3 H3 s3 hk => ⟨b, rfl, hk B3 H3 ((s1.trans s2).trans s3)⟩
theorem op_eqO {C fI : Addr} {fd : FuncData} {sp : Sp} (m : Fm X W j) (F : FnD X.prog X.w X.K X.mg X.base k fI fd ["self", "other"] sp) (hk : k ≤ j) (hc : EqC X.K C fI) (hb : ∀ (s : Shared) (u v : Value), BindsTo s fd ⟨[u, v], []⟩ [("self", u), ("other", v)]) :
    OpR X (compareOp .Eq) (fun x y H Q => ∃ (a dx : Addr) (fs : List (Str × V)) (t : Value), x = .ref a ∧ H a = some (.ins C dx fs) ∧ TyX X.K H y t ∧ PySem.W.notFirst X.K C t = true ∧ sp [x, y] H (fun v H' => (∃ b, v = .bl b) ∧ Q v H') (fun _ _ _ => False)) := by
  intro pins s σ H x y v u Q I rx ry h
  obtain ⟨a, dx, fs, t, rfl, ha, ty, hn, hsp⟩ := h
  obtain rfl : v = Value.ref a := rx
  obtain ⟨mA, J, _⟩ := ins_get I.hok ha
  obtain ⟨od, J, _⟩ := J.look
  obtain ⟨P, Z, p, hx⟩ := kit_of I ry ty
  obtain ⟨mm, hF⟩ := I.fr
  show wpAny _ _ (richCompare .Eq (.ref a) u) _ _ _
  refine PySem.W.cmp_K (op := .Eq) (tb := t) (by have := m.hu; omega) hF I.ok.mod.kin J (Z.ty _ _ I.kIn p) hn hc.fi hc.fn ?_
  refine wpAny_call (codeAny_mono (run_fnD m F hk (fun _ _ _ _ h => h.elim) I (hb s _ _) (vs := [V.ref a, y]) (.cons (show RelV (V.ref a) (Value.ref a) from rfl) (.cons ry .nil)) hsp) fun r s' hq => ?_)
  cases r with
  | error e => exact hq
  | ok fl =>
    cases fl with
    | ret w =>
      obtain ⟨z, H', I', rz, ⟨b, rfl⟩, q⟩ := hq
      cases rz
      exact ⟨.bl b, H', I', rfl, q⟩
    | next => exact hq.elim
    | brk => exact hq.elim
    | cont => exact hq.elim
theorem opcs_eqO {P : Program} {w : World} {mg : Str → Option Value} {base : Heap} {C fI : Addr} {Cn' : Str} {F : DF} (mn : MnF F) (hC : C = c.ca Cn') (hc : EqC X.K C fI) :
    OpCS c (fun x y H Q => ∃ (a dx : Addr) (fs : List (Str × V)) (t : Value), x = .ref a ∧ H a = some (.ins C dx fs) ∧ TyX X.K H y t ∧ PySem.W.notFirst X.K C t = true ∧ spD c 2 F [x, y] H (fun v H' => (∃ b, v = .bl b) ∧ Q v H') (fun _ _ _ => False)) (dEqO Cn' F) := by
  subst hC
  refine ⟨fun d e k k' hk ⟨h1, h2, h3⟩ => ⟨h1, h2, mn _ _ _ _ _ (fun r ⟨b, e, z⟩ => ⟨b, e, hk _ z⟩) (fun _ z => z) h3⟩, ?_⟩
  intro B H x y d e Q k p hx hy q K
  obtain ⟨⟨fs, rfl⟩, h2, h3⟩ := q
  cases hx with
  | @obj a dx _ vs _ hB o r =>
    have key : ∃ t, e.ty c = some t ∧ PySem.W.notFirst X.K (c.ca Cn') t = true := by
      rcases h2 with ⟨gs, rfl⟩ | ⟨T, hT, ht⟩
      · exact ⟨_, rfl, by simp [PySem.W.notFirst]⟩
      · exact ⟨_, tn_ty c ht, by unfold PySem.W.notFirst; rw [hc.nf T hT]; simp⟩
    obtain ⟨t, ht, hn⟩ := key
    refine ⟨a, dx, vs, t, rfl, p.bh _ _ hB, hy.tyx p.bh ht, hn, B, _, p, .cons (.obj hB o r) (.cons hy .nil), rfl, mn _ _ _ _ _ (fun rv hr v B' H' s ro => ?_) (fun x hx cls d B' H' s xo => hx) h3⟩
    obtain ⟨b, rfl, hk⟩ := hr
    cases ro
    exact ⟨⟨b, rfl⟩, K b B' H' s hk⟩
theorem ev_eqO {C q : Str} {st : Stmt} {F : DF} (m : Fm X W j) (d : Dq X.prog X.w X.K X.mg X.base c k C q st F) (hk : k ≤ j) (ha : EV X c W a f) (hb : EV X c W b g) : EV X c W (.Compare a [.Eq] [b] pos) (bV (cBin f g (dEqO C F))) := by
  obtain ⟨fI, kV, doc, pm, an, cdv, ct, hc, F1⟩ := d.ok
  exact ev_cmpS (op_eqO m F1 hk hc (d.bd kV doc pm an cdv ct)) (opcs_eqO (P := X.prog) (w := X.w) (mg := X.mg) (base := X.base) d.mn rfl hc) ha hb (nomark _)
theorem eb_eqO {C q : Str} {st : Stmt} {F : DF} (m : Fm X W j) (d : Dq X.prog X.w X.K X.mg X.base c k C q st F) (hk : k ≤ j) (ha : EV X c W a f) (hb : EV X c W b g) : EB X c W (.Compare a [.Eq] [b] pos) (cBin f g (dEqO C F)) := by
  obtain ⟨fI, kV, doc, pm, an, cdv, ct, hc, F1⟩ := d.ok
  exact eb_cmpS (op_eqO m F1 hk hc (d.bd kV doc pm an cdv ct)) (opcs_eqO (P := X.prog) (w := X.w) (mg := X.mg) (base := X.base) d.mn rfl hc) ha hb (nomark _)
end
theorem dq_gen {P : Program} {w : World} {K : PySem.W.Frag} {mg : Str → Option Value} {base : Heap} {c : Cn K} {C q : Str} {st : Stmt} {N : List Str} {k : Nat} {b : DS} (fu : ∃ f fd, EqC K (c.ca C) f ∧ Fun K "__eq__" q st f fd) (S : FnScope N ["self", "other"] (defScope st)) (hr : Room (k + 1) callerA)
    (bd : ∀ (kV doc pm : Value) (an : Option Addr) (cdv ct : Value) (s : Shared) (u v : Value), BindsTo s (PySem.W.fnOf "__eq__" q (defArgs st) (defBody st) (defScope st) .none kV doc pm an cdv ct) ⟨[u, v], []⟩ [("self", u), ("other", v)])
    (hbody : ∀ (fI : Addr) (cdv : Value) (A : Around) (outer : List Env) (s : Shared) (H : Hp) (E : L2.XK), Fm (FX P w K mg base N q st fI cdv A outer s H E) (FW E) k → SB (FX P w K mg base N q st fI cdv A outer s H E) c (FW E) (defBody st) b) : Dq P w K mg base c (k + 1) C q st (dfS N.length b) := by
  obtain ⟨f, fd, hc, fu⟩ := fu
  obtain ⟨oc, od, kV, doc, pm, an, cdv, ct, osl, rfl, lk, hcd⟩ := fu.ex
  have mb : MnS b := (hbody f .none callerA [] {} (fun _ => none) (fun _ _ _ => False) (fm_of S (hr.deeper _) rfl)).mn
  refine ⟨dfS_mn mb, ⟨f, kV, doc, pm, an, cdv, ct, hc, ?_⟩, bd⟩
  refine fnd_ofC lk hcd S (fun vs H Q E ⟨B, ds, p, i, l, _⟩ => i.length.trans l) fun A outer s H vs Q E fm h => ?_
  obtain ⟨B, ds, p, i, l, z⟩ := h
  have hb := hbody f cdv A outer s H E fm
  refine ⟨_, hb.ps, H, B, B, _, rep_start p i (by rw [i.length, l]; exact pre_len S), ?_⟩
  refine hb.mn _ ⟨fun _ => _, _, fun _ => False, fun _ => False⟩ _ _ _ ⟨fun ρ' hq σ' B' H' r' sm => ?_, fun r hq v B' H' st ro => ?_, fun ρ' hq => hq.elim, fun ρ' hq => hq.elim⟩ (fun xn hx => ?_) z
  · exact hq V.non B' H' r'.st (rv_val .non)
  · exact hq v B' H' st ro
  · exact fun cls d σ' B' H' st xo => hx cls d B' H' st xo
section
variable {X : Cx} {c : Cn X.K} {W : WX} {e a b : Expr} {es : List Expr} {pos : Pos} {f g : DV} {j k : Nat}
/-- C(x=.., ..) -/
theorem er_makeK0 {h : DL} {x q : Str} {st : Stmt} {ps ks : List Str} {kws : List Keyword} {perm : List Nat} {F : DF} {p : Pos} (m : Fm X W j) (d : Dm X.prog X.w X.K X.mg X.base c k x q st ps F) (hk : k + 1 ≤ j) (hg : Gl X x) (hb : BindM q st ps ks 0 (pick perm))
    (hw : EK X c W kws h) (hp : ∀ es' : List D, es'.length = kws.length → (pick perm es').length = ps.length) (hlk : kws.length = ks.length := by rfl)
    (hall : (backToKw pos (keywordEach kws X.env)).all (·.1.isSome) = true := by rfl) (hks : (backToKw pos (keywordEach kws X.env)).filterMap (·.1) = ks := by rfl)
    (hdb : (x == ("__debug__" : Str)) = false := by decide)
    (hpl : ((backTo pos (starEach [] X.env)).any (·.1) || (backToKw pos (keywordEach kws X.env)).any (·.1.isNone)) = false := by rfl) :
    ER X c W (.Call (.Name x p) [] kws pos) (dCallK aNil h perm F) := by
  refine ⟨callk_mn (fun ρ k k' E E' hk hE q => hk _ q) hw.mn d.mn, ⟨fun pins s σ H Q I q => ?_⟩⟩
  have M := d.ok
  obtain ⟨fI, _, _, _, _, _, _, M, _⟩ := M
  refine wpAny_Call_Name_kw (ld_glob I hg d.g ?_ hdb)
  obtain ⟨B, ρ, pr, rp, q⟩ := q
  have ht : tL c W h σ H fun zs H2 => zs.length = kws.length ∧ ∃ B ds, Pre c B H2 ∧ IsL c B zs ds ∧ (pick perm ds).length = ps.length ∧
      F (pick perm ds) (fun r => ∀ v B' H', Step c B H2 B' H' → RvOk c H2 B' H' v r → Q v H') (fun xn => ∀ cls d σ' B' H', Step c B H2 B' H' → XOk c B' H' cls d xn → W cls d σ' H') := by
    refine ⟨B, ρ, pr, rp, hw.mn _ _ _ _ _ (fun es' he zs B2 H2 s2 i2 => ⟨i2.length.trans he.1, ?_⟩) (fun x z => z) (hw.len _ _ _ q)⟩
    refine ⟨B2, _, s2.pre, i2, hp es' he.1, d.mn _ _ _ _ _ (fun r hr v B' H' s3 ro => ?_) (fun x hx cls d σ' B' H' s3 xo => ?_) he.2⟩
    · exact hr v B' H' (s2.trans s3) (ro.up s2)
    · exact hx cls d σ' B' H' (s2.trans s3) xo
  refine PySem.W.callWith_KW0 (h₀ := X.base) I.ok.mod.kin M.kp hall ?_ hpl
  refine thn (hw.pk.run pos pins s σ H _ I ht) fun ws s2 ⟨zs, H2, I2, rz, l2, B2, ds, p2, i2, hn, q2⟩ => ⟨I2.kIn, ?_⟩
  rw [hks]
  exact run_makeD (us := []) m d hk hb I2 rfl ((rz.length.symm.trans l2).trans hlk) rz p2 i2 hn q2
end
end Dv

set_option Elab.async false
set_option linter.all false
set_option maxRecDepth 100000
set_option maxHeartbeats 4000000
namespace Dv
open PySem PySem.Spec PyProof.Rows L2
/-! ### x, y, z = a, b, c, some of them lists held alone -/
def rsN : List DR → View → (List Rv → Prop) → (Exn → Prop) → Prop
  | [], _, k, _ => k []
  | f :: fs, ρ, k, E => f ρ (fun u => rsN fs ρ (fun us => k (u :: us)) E) E
def putK : List (Nat × Bool) → List Rv → Sl → (Sl → Prop) → Prop
  | [], [], ρ, k => k ρ
  | p :: is, u :: us, ρ, k => ∃ s, slotR p.2 u = some s ∧ putK is us (ρ.set p.1 (some s)) k
  | _, _, _, _ => False
def setMany (σ : L2.St) : List (Nat × Bool) → List V → L2.St
  | p :: is, v :: vs => setMany (σ.set p.1 (some v)) is vs
  | _, _ => σ
theorem putK_mn {k k' : Sl → Prop} (h : ∀ ρ, k ρ → k' ρ) : ∀ {is : List (Nat × Bool)} {us : List Rv} {ρ : Sl}, putK is us ρ k → putK is us ρ k'
  | [], [], _, q => h _ q
  | _ :: _, _ :: _, _, ⟨s, e, q⟩ => ⟨s, e, putK_mn h q⟩
  | [], _ :: _, _, q => q.elim
  | _ :: _, [], _, q => q.elim
inductive ERs (X : Cx) (c : Cn X.K) (W : WX) : List Expr → List DR → Prop
  | nil : ERs X c W [] []
  | cons {e : Expr} {es : List Expr} {f : DR} {fs : List DR} : ER X c W e f → starEach (e :: es) X.env = (false, eval e X.env) :: starEach es X.env → ERs X c W es fs → ERs X c W (e :: es) (f :: fs)
theorem rsN_mn {X : Cx} {c : Cn X.K} {W : WX} : ∀ {es : List Expr} {fs : List DR}, ERs X c W es fs → ∀ ρ (k k' : List Rv → Prop) (E E' : Exn → Prop), (∀ us, k us → k' us) → (∀ x, E x → E' x) → rsN fs ρ k E → rsN fs ρ k' E'
  | _, _, .nil, _, _, _, _, _, hk, _, q => hk _ q
  | _, _, .cons h _ t, ρ, k, k', E, E', hk, hE, q => h.mn ρ _ _ E E' (fun u q => rsN_mn t ρ _ _ E E' (fun us => hk _) hE q) hE q
/-- all values, at the end of the last -/
inductive Mny {K : PySem.W.Frag} (c : Cn K) (H B2 H2 : Hp) : List V → List Rv → Prop
  | nil : Mny c H B2 H2 [] []
  | cons {v : V} {u : Rv} {vs : List V} {us : List Rv} : RvOk c H B2 H2 v u → (∀ ds, u = .new ds → ∀ (i : Nat) (w : V) (es : List D), vs[i]? = some w → us[i]? = some (.new es) → v ≠ w) → Mny c H B2 H2 vs us → Mny c H B2 H2 (v :: vs) (u :: us)
theorem Mny.up {K : PySem.W.Frag} {c : Cn K} {B H B1 H1 B2 H2 : Hp} (s : Step c B H B1 H1) : ∀ {vs : List V} {us : List Rv}, Mny c H1 B2 H2 vs us → Mny c H B2 H2 vs us
  | _, _, .nil => .nil
  | _, _, .cons a b t => .cons (a.up s) b (t.up s)
theorem Mny.at {K : PySem.W.Frag} {c : Cn K} {H B2 H2 : Hp} : ∀ {vs : List V} {us : List Rv}, Mny c H B2 H2 vs us → ∀ {i : Nat} {w : V} {z : Rv}, vs[i]? = some w → us[i]? = some z → RvOk c H B2 H2 w z
  | _, _, .cons a _ t, 0, w, z, h1, h2 => by
    simp at h1 h2; subst h1; subst h2; exact a
  | _, _, .cons _ _ t, i + 1, w, z, h1, h2 => t.at (i := i) (by simpa using h1) (by simpa using h2)
theorem pa_many {X : Cx} {c : Cn X.K} {W : WX} : ∀ {es : List Expr} {fs : List DR}, ERs X c W es fs →
    PA X es fun σ H Q => ∃ B ρ, Pre c B H ∧ RepV c B σ ρ ∧ rsN fs ρ (fun us => ∀ vs B2 H2, Step c B H B2 H2 → Mny c H B2 H2 vs us → Q vs H2) (XK c W B H)
  | _, _, .nil => wkA pa_nil fun σ H Q ⟨B, ρ, p, rp, q⟩ => q [] B H (Step.refl p) .nil
  | _, _, .cons ha hs t => by
    refine wkA (pa_cons ha.pe (pa_many t) hs) ?_
    rintro σ H Q ⟨B, ρ, p, rp, q⟩
    refine ⟨B, ρ, p, rp, ha.mn _ _ _ _ _ (fun u hu v B1 H1 s1 r1 => ?_) (fun _ z => z) q⟩
    refine ⟨B1, ρ, s1.pre, rp.mono s1.b, rsN_mn t _ _ _ _ _ (fun us hus vs B2 H2 s2 m2 => ?_) (fun x z => z.step s1) hu⟩
    refine hus _ B2 H2 (s1.trans s2) (.cons ?_ (fun ds e1 i w es hw hz => ?_) (m2.up s1))
    · cases u with
      | val d => exact Is.mono s2.b r1
      | new ds =>
        obtain ⟨a, vs, e1, e2, e3, e4, e5⟩ := r1
        exact ⟨a, vs, e1, s2.out a _ e2 (p.nmu e5) (fun _ z => nomatch z), e3.mono s2.b, by rw [s2.dom a (by rw [e2]; exact fun z => nomatch z)]; exact e4, e5⟩
    · subst e1
      obtain ⟨a, vs, e1, e2, _⟩ := r1
      obtain ⟨b, us, f1, _, _, _, f5⟩ := m2.at hw hz
      rintro rfl
      rw [e1] at f1; cases f1
      rw [e2] at f5; cases f5
theorem put_keep {K : PySem.W.Frag} {c : Cn K} {H0 B0 B H : Hp} {σ : L2.St} {ρ : Sl} {v w : V} {u z : Rv} {i : Nat} {o : Bool} {s : Slot} (r : Rep c H0 B0 B H σ ρ) (h1 : slotR o u = some s) (hu : PutR c H0 B H σ ρ v u) {B1 : Hp}
    (s1 : Same B B1) (k1 : ∀ d, u = .val d → B1 = B) (k2 : ∀ ds b, u = .new ds → V.ref b ≠ v → B1 b = B b) (k3 : ∀ es, s = .own es → ∃ ds, u = .new ds) (hw : PutR c H0 B H σ ρ w z) (ne : ∀ ds es, u = .new ds → z = .new es → v ≠ w) : PutR c H0 B1 H (σ.set i (some v)) (ρ.set i (some s)) w z := by
  cases z with
  | val d => exact Is.mono s1 hw
  | new es =>
    obtain ⟨a, vs, e1, e2, e3, e4, e5, e6⟩ := hw
    subst e1
    refine ⟨a, vs, rfl, e2, e3.mono s1, ?_, e5, ?_⟩
    · cases u with
      | val d => rw [k1 d rfl]; exact e4
      | new ds => rw [k2 ds a rfl (fun q => ne ds es rfl rfl q.symm)]; exact e4
    · rintro ⟨n, fs, q1, q2⟩
      rcases set_get q1 with ⟨rfl, hl, q3⟩ | ⟨hn, q3⟩
      · obtain ⟨ds, hu⟩ := k3 fs (Option.some.inj q3)
        rw [List.getElem?_set_self (by rw [← r.len]; exact hl)] at q2
        exact ne ds es hu rfl (Option.some.inj (Option.some.inj q2))
      · rw [List.getElem?_set_ne (fun z => hn z.symm)] at q2
        exact e6 ⟨n, fs, q3, q2⟩
inductive Mpu {K : PySem.W.Frag} (c : Cn K) (H0 B H : Hp) (σ : L2.St) (ρ : Sl) : List V → List Rv → Prop
  | nil : Mpu c H0 B H σ ρ [] []
  | cons {v : V} {u : Rv} {vs : List V} {us : List Rv} : PutR c H0 B H σ ρ v u → (∀ ds, u = .new ds → ∀ (i : Nat) (w : V) (es : List D), vs[i]? = some w → us[i]? = some (.new es) → v ≠ w) → Mpu c H0 B H σ ρ vs us → Mpu c H0 B H σ ρ (v :: vs) (u :: us)
theorem mpu_set {K : PySem.W.Frag} {c : Cn K} {H0 B0 H : Hp} {κ : Sl → Prop} : ∀ {is : List (Nat × Bool)} {vs : List V} {us : List Rv} {B : Hp} {σ : L2.St} {ρ : Sl}, Rep c H0 B0 B H σ ρ → Mpu c H0 B H σ ρ vs us → putK is us ρ κ →
    ∃ B' ρ', Rep c H0 B0 B' H (setMany σ is vs) ρ' ∧ Same B B' ∧ κ ρ'
  | [], _, _, B, σ, ρ, r, .nil, q => ⟨B, ρ, r, Same.refl B, q⟩
  | [], _, _, _, _, _, _, .cons _ _ _, q => q.elim
  | _ :: _, _, _, _, _, _, _, .nil, q => q.elim
  | p :: is, _, _, B, σ, ρ, r, .cons (v := v) (u := u) (vs := vs) (us := us) a d t, q => by
    obtain ⟨s, h1, q⟩ := q
    obtain ⟨B1, r1, s1, k1, k2, k3⟩ := r.setR (i := p.1) h1 a
    have t1 : Mpu c H0 B1 H (σ.set p.1 (some v)) (ρ.set p.1 (some s)) vs us := by
      have key : ∀ (vs' : List V) (us' : List Rv), Mpu c H0 B H σ ρ vs' us' → (∀ ds, u = .new ds → ∀ (i : Nat) (w : V) (es : List D), vs'[i]? = some w → us'[i]? = some (.new es) → v ≠ w) → Mpu c H0 B1 H (σ.set p.1 (some v)) (ρ.set p.1 (some s)) vs' us' := by
        intro vs' us' m
        induction m with
        | nil => intro _; exact .nil
        | cons b e t ih =>
          intro hd
          refine .cons (put_keep r h1 a s1 k1 k2 k3 b fun ds es e1 e2 => hd ds e1 0 _ es rfl (by rw [e2]; rfl)) e (ih fun ds e1 i w es g1 g2 => ?_)
          exact hd ds e1 (i + 1) w es (by simpa using g1) (by simpa using g2)
      exact key vs us t d
    obtain ⟨B2, ρ2, r2, s2, z⟩ := mpu_set r1 t1 q
    exact ⟨B2, ρ2, r2, fun a o e => s2 a o (s1 a o e), z⟩
theorem Mny.pu {K : PySem.W.Frag} {c : Cn K} {H0 B H H1 : Hp} {σ : L2.St} {ρ : Sl} (hz : ∀ a, H a = none → H0 a = none) (na : ∀ a, H a = none → ¬ OwnAt ρ σ a) : ∀ {vs : List V} {us : List Rv}, Mny c H B H1 vs us → Mpu c H0 B H1 σ ρ vs us
  | _, _, .nil => .nil
  | _, _, .cons (u := u) a b t => by
    refine .cons ?_ b (t.pu hz na)
    cases u with
    | val d => exact a
    | new ds => exact let ⟨a, vs, e1, e2, e3, e4, e5⟩ := a; ⟨a, vs, e1, e2, e3, e4, hz a e5, na a e5⟩
def lfRs : List Rv → Bool
  | [] => true
  | u :: us => lfR u && lfRs us
theorem Mny.but {K : PySem.W.Frag} {c : Cn K} {H B2 B' H2 : Hp} (kp : ∀ a o, B2 a = some o → (∀ xs, o ≠ .lst xs) → B' a = some o) (hn : ∀ a, H a = none → B2 a = none → B' a = none) : ∀ {vs : List V} {us : List Rv}, Mny c H B2 H2 vs us → lfRs us = true → Mny c H B' H2 vs us
  | _, _, .nil, _ => .nil
  | _, _, .cons (u := u) a b t, h => by
    simp only [lfRs, Bool.and_eq_true] at h
    refine .cons ?_ b (t.but kp hn h.2)
    cases u with
    | val d => exact Is.but kp a h.1
    | new ds => exact let ⟨a, vs, e1, e2, e3, e4, e5⟩ := a; ⟨a, vs, e1, e2, e3.but kp h.1, hn a e5 e4, e5⟩
def sParsN (is : List (Nat × Bool)) (fs : List DR) : DS := fun ρ k E => rsN fs (viewN ρ) (fun us => putK is us ρ k.nx) E
def sParsB (is : List (Nat × Bool)) (fs : List DR) : DS := fun ρ k E => rsN fs (viewB ρ) (fun us => lfRs us = true ∧ putK is us ρ k.nx) E
section
variable {X : Cx} {c : Cn X.K} {W : WX} {j : Nat}
theorem many_N {es : List Expr} {fs : List DR} {is : List (Nat × Bool)} {st : Stmt} {ts : TS} (hs : ERs X c W es fs) (h : PS X st ts)
    (hw : ∀ D σ H, (∃ B ρ, Pre c B H ∧ RepV c B σ ρ ∧ rsN fs ρ (fun us => ∀ vs B2 H2, Step c B H B2 H2 → Mny c H B2 H2 vs us → D.nx (setMany σ is vs) H2) (XK c W B H)) → ts D σ H) : SS X c W st (sParsN is fs) := by
  refine ⟨fun ρ k k' E E' hk hE q => rsN_mn hs _ _ _ _ _ (fun us q => putK_mn hk.nx q) hE q, wkS h ?_⟩
  rintro D σ H ⟨H0, B0, B, ρ, r, q⟩
  refine hw D σ H ⟨B, _, r.pre, r.viewN, rsN_mn hs _ _ _ _ _ (fun us q vs B2 H2 s2 T => ?_) (fun x hx => hx.repN r) q⟩
  have na : ∀ a, H a = none → ¬ OwnAt ρ σ a := fun a e o => by
    obtain ⟨⟨us, e'⟩, _⟩ := r.ownH o
    rw [e] at e'; cases e'
  obtain ⟨B', ρ', r', s', z⟩ := mpu_set (r.goN s2) (T.pu (fun a => fresh0 r.st) na) q
  exact z _ B' H2 r' fun a o e => s' a o (s2.b a o e)
theorem many_B {es : List Expr} {fs : List DR} {is : List (Nat × Bool)} {st : Stmt} {ts : TS} (hs : ERs X c W es fs) (h : PS X st ts)
    (hw : ∀ D σ H, (∃ B ρ, Pre c B H ∧ RepV c B σ ρ ∧ rsN fs ρ (fun us => ∀ vs B2 H2, Step c B H B2 H2 → Mny c H B2 H2 vs us → D.nx (setMany σ is vs) H2) (XK c W B H)) → ts D σ H) : SS X c W st (sParsB is fs) := by
  refine ⟨fun ρ k k' E E' hk hE q => rsN_mn hs _ _ _ _ _ (fun us q => ⟨q.1, putK_mn hk.nx q.2⟩) hE q, wkS h ?_⟩
  rintro D σ H ⟨H0, B0, B, ρ, r, q⟩
  obtain ⟨Bp, pp, sm, ln, rv⟩ := r.lend
  refine hw D σ H ⟨Bp, _, pp, rv, rsN_mn hs _ _ _ _ _ (fun us q vs B2 H2 s2 T => ?_) (fun x hx => hx.rep r sm ln) q⟩
  have na : ∀ a, H a = none → ¬ OwnAt ρ σ a := fun a e o => by
    obtain ⟨⟨us, e'⟩, _⟩ := r.ownH o
    rw [e] at e'; cases e'
  obtain ⟨B1, r1, s1, off, kp⟩ := r.goB sm ln s2
  obtain ⟨B', ρ', r', s', z⟩ := mpu_set r1 ((T.but kp (fun a e e2 => (off a (na a e)).trans e2) q.1).pu (fun a => fresh0 r.st) na) q.2
  exact z _ B' H2 r' fun a o e => s' a o (s1 a o e)
theorem mny_len {K : PySem.W.Frag} {c : Cn K} {H B2 H2 : Hp} : ∀ {vs : List V} {us : List Rv}, Mny c H B2 H2 vs us → vs.length = us.length
  | _, _, .nil => rfl
  | _, _, .cons _ _ t => congrArg (· + 1) (mny_len t)
theorem rsN_len : ∀ {fs : List DR} {ρ : View} {k : List Rv → Prop} {E : Exn → Prop} {es : List Expr}, ERs X c W es fs → rsN fs ρ k E → rsN fs ρ (fun us => us.length = es.length ∧ k us) E
  | _, _, _, _, _, .nil, q => ⟨rfl, q⟩
  | _, ρ, k, E, _, .cons h _ t, q => h.mn ρ _ _ E E (fun u q => rsN_mn t ρ _ _ E E (fun us q => ⟨by simp [q.1], q.2⟩) (fun _ z => z) (rsN_len t q)) (fun _ z => z) q
/-- the shape of x, y, z = a, b, c -/
structure Par3Ok (X : Cx) (x y z : Str) (px py pz pt pt2 pos : Pos) (kt k2 : Nat) (a b c : Expr) : Prop where
  hx : X.env.scope.names.lookup x = some .local
  hy : X.env.scope.names.lookup y = some .local
  hz : X.env.scope.names.lookup z = some .local
  hw : swappedStores [.Tuple [.Name x px, .Name y py, .Name z pz] kt pt] (.Tuple [a, b, c] k2 pt2) X.env = pure (some [x, y, z])
  hs : swapsWithSole [.Tuple [.Name x px, .Name y py, .Name z pz] kt pt] (.Tuple [a, b, c] k2 pt2) pos.line X.env = pure false
theorem par3_ps {fs : List DR} {x y z : Str} {i l n kt k2 : Nat} {oi ol on : Bool} {px py pz pt pt2 pos : Pos} {a b d : Expr} (m : Fm X W j) (hs : ERs X c W [a, b, d] fs) (hi : X.N[i]? = some x) (hl : X.N[l]? = some y) (hn : X.N[n]? = some z) (hil : i ≠ l) (hin : i ≠ n) (hln : l ≠ n)
    (ok : Par3Ok X x y z px py pz pt pt2 pos kt k2 a b d) : ∃ ts, PS X (.Assign [.Tuple [.Name x px, .Name y py, .Name z pz] kt pt] (.Tuple [a, b, d] k2 pt2) pos) ts ∧
      ∀ D σ H, (∃ B ρ, Pre c B H ∧ RepV c B σ ρ ∧ rsN fs ρ (fun us => ∀ vs B2 H2, Step c B H B2 H2 → Mny c H B2 H2 vs us → D.nx (setMany σ [(i, oi), (l, ol), (n, on)] vs) H2) (XK c W B H)) → ts D σ H := by
  refine ⟨_, ps_par3 m.calm m.nd hi hl hn hil hin hln ok.hx ok.hy ok.hz (pa_many hs) ok.hw ok.hs, ?_⟩
  rintro D σ H ⟨B, ρ, p, rp, q⟩
  refine ⟨B, ρ, p, rp, rsN_mn hs _ _ _ _ _ (fun us q vs B2 H2 s2 T => ?_) (fun x hx => hx) (rsN_len hs q)⟩
  have e := mny_len T
  rw [q.1] at e
  match vs, e with
  | [u, v, w], _ => exact ⟨u, v, w, rfl, q.2 [u, v, w] B2 H2 s2 T⟩
theorem ss_par3N {fs : List DR} {x y z : Str} {i l n kt k2 : Nat} {oi ol on : Bool} {px py pz pt pt2 pos : Pos} {a b d : Expr} (m : Fm X W j) (hs : ERs X c W [a, b, d] fs) (hi : X.N[i]? = some x := by rfl) (hl : X.N[l]? = some y := by rfl) (hn : X.N[n]? = some z := by rfl) (hil : i ≠ l := by decide) (hin : i ≠ n := by decide) (hln : l ≠ n := by decide)
    (ok : Par3Ok X x y z px py pz pt pt2 pos kt k2 a b d := by exact ⟨rfl, rfl, rfl, by rfl, rfl⟩) : SS X c W (.Assign [.Tuple [.Name x px, .Name y py, .Name z pz] kt pt] (.Tuple [a, b, d] k2 pt2) pos) (sParsN [(i, oi), (l, ol), (n, on)] fs) :=
  let ⟨_, h1, h2⟩ := par3_ps (oi := oi) (ol := ol) (on := on) m hs hi hl hn hil hin hln ok
  many_N hs h1 h2
theorem ss_par3B {fs : List DR} {x y z : Str} {i l n kt k2 : Nat} {oi ol on : Bool} {px py pz pt pt2 pos : Pos} {a b d : Expr} (m : Fm X W j) (hs : ERs X c W [a, b, d] fs) (hi : X.N[i]? = some x := by rfl) (hl : X.N[l]? = some y := by rfl) (hn : X.N[n]? = some z := by rfl) (hil : i ≠ l := by decide) (hin : i ≠ n := by decide) (hln : l ≠ n := by decide)
    (ok : Par3Ok X x y z px py pz pt pt2 pos kt k2 a b d := by exact ⟨rfl, rfl, rfl, by rfl, rfl⟩) : SS X c W (.Assign [.Tuple [.Name x px, .Name y py, .Name z pz] kt pt] (.Tuple [a, b, d] k2 pt2) pos) (sParsB [(i, oi), (l, ol), (n, on)] fs) :=
  let ⟨_, h1, h2⟩ := par3_ps (oi := oi) (ol := ol) (on := on) m hs hi hl hn hil hin hln ok
  many_B hs h1 h2
/-! the other road: the tuple is made and taken apart -/
inductive NmG (X : Cx) : List Expr → List (Nat × Bool) → Prop
  | nil : NmG X [] []
  | cons {x : Str} {p : Pos} {ts : List Expr} {i : Nat} {o : Bool} {is : List (Nat × Bool)} : X.N[i]? = some x → Loc X.env.scope x → (X.fn x = true ∨ X.env.scope.names.lookup x = some .local) → (assignEach (.Name x p :: ts) X.env).map (·.2) = assign (.Name x p) X.env :: (assignEach ts X.env).map (·.2) → NmG X ts is → NmG X (.Name x p :: ts) ((i, o) :: is)
theorem nm_pgs (hN : X.N.Nodup) : ∀ {ts : List Expr} {is : List (Nat × Bool)}, NmG X ts is → PGs X ts fun vs σ H Q => vs.length = is.length ∧ Q (setMany σ is vs) H
  | _, _, .nil => wkGs pgs_nil fun vs σ H Q h => by
    match vs, h.1 with
    | [], _ => exact ⟨rfl, h.2⟩
  | _, _, .cons a b f s t => wkGs (pgs_cons (pg_name hN a b f) (nm_pgs hN t) s) fun vs σ H Q h => by
    match vs, h.1 with
    | v :: vs, e => exact ⟨v, vs, rfl, by simpa using e, h.2⟩
theorem parG_ps {es ts : List Expr} {fs : List DR} {is : List (Nat × Bool)} {kt k2 n : Nat} {pt pt2 pos : Pos} (m : Fm X W j) (hs : ERs X c W es fs) (hg : NmG X ts is) (hl : es.length ≤ sizeLine) (hi : is.length = n) (he : es.length = n)
    (hn : (assignEach ts X.env).length = n) (hst : (assignEach ts X.env).findIdx? (·.1) = none) (ok : AsgOk X (.Tuple ts kt pt) (.Tuple es k2 pt2) pos) : ∃ tS, PS X (.Assign [.Tuple ts kt pt] (.Tuple es k2 pt2) pos) tS ∧
      ∀ D σ H, (∃ B ρ, Pre c B H ∧ RepV c B σ ρ ∧ rsN fs ρ (fun us => ∀ vs B2 H2, Step c B H B2 H2 → Mny c H B2 H2 vs us → D.nx (setMany σ is vs) H2) (XK c W B H)) → tS D σ H := by
  refine ⟨_, ps_asg (pe_tup (pa_many hs)) (pg_tup m.calm (nm_pgs m.nd hg) hn hst) ok.sw ok.st ok.ea, ?_⟩
  rintro D σ H ⟨B, ρ, p, rp, q⟩
  refine ⟨B, ρ, p, rp, rsN_mn hs _ _ _ _ _ (fun us q vs B2 H2 s2 T => ?_) (fun x hx => hx) (rsN_len hs q)⟩
  have e := mny_len T
  rw [q.1] at e
  refine ⟨by rw [e]; exact hl, fun a ha => ?_⟩
  have s3 := Step.lay s2.pre ha (.tup vs)
  refine ⟨a, vs, rfl, .inl (.inl upd_same), by rw [e, he], by rw [e, he, hi], q.2 vs B2 _ (s2.trans s3) ?_⟩
  clear q e
  have nx : ∀ b o, H2 b = some o → upd H2 a (.tup vs) b = some o := fun b o e => Same.new ha b o e
  generalize upd H2 a (.tup vs) = H3 at nx
  clear s3
  induction T with
  | nil => exact .nil
  | @cons v u _ _ x y t ih =>
    refine .cons ?_ y ih
    cases u with
    | val d => exact x
    | new ds => exact let ⟨a, vs, e1, e2, e3, e4, e5⟩ := x; ⟨a, vs, e1, nx _ _ e2, e3, e4, e5⟩
theorem ss_parGN {es ts : List Expr} {fs : List DR} {is : List (Nat × Bool)} {kt k2 n : Nat} {pt pt2 pos : Pos} (m : Fm X W j) (hs : ERs X c W es fs) (hg : NmG X ts is) (hl : es.length ≤ sizeLine := by decide) (hi : is.length = n := by rfl) (he : es.length = n := by rfl)
    (hn : (assignEach ts X.env).length = n := by rfl) (hst : (assignEach ts X.env).findIdx? (·.1) = none := by rfl) (ok : AsgOk X (.Tuple ts kt pt) (.Tuple es k2 pt2) pos := by exact ⟨rfl, rfl, rfl⟩) : SS X c W (.Assign [.Tuple ts kt pt] (.Tuple es k2 pt2) pos) (sParsN is fs) :=
  let ⟨_, h1, h2⟩ := parG_ps m hs hg hl hi he hn hst ok
  many_N hs h1 h2
theorem ss_parGB {es ts : List Expr} {fs : List DR} {is : List (Nat × Bool)} {kt k2 n : Nat} {pt pt2 pos : Pos} (m : Fm X W j) (hs : ERs X c W es fs) (hg : NmG X ts is) (hl : es.length ≤ sizeLine := by decide) (hi : is.length = n := by rfl) (he : es.length = n := by rfl)
    (hn : (assignEach ts X.env).length = n := by rfl) (hst : (assignEach ts X.env).findIdx? (·.1) = none := by rfl) (ok : AsgOk X (.Tuple ts kt pt) (.Tuple es k2 pt2) pos := by exact ⟨rfl, rfl, rfl⟩) : SS X c W (.Assign [.Tuple ts kt pt] (.Tuple es k2 pt2) pos) (sParsB is fs) :=
  let ⟨_, h1, h2⟩ := parG_ps m hs hg hl hi he hn hst ok
  many_B hs h1 h2
end
end Dv

set_option Elab.async false
set_option linter.all false
set_option maxRecDepth 100000
set_option maxHeartbeats 4000000
namespace Dv
open PySem PySem.Spec PyProof.Rows L2
theorem bits_leW {j : Int} {n : Nat} (h : j.natAbs < 2 ^ n) : Builtin.Int.intBits j ≤ n + 1 := by
  unfold Builtin.Int.intBits
  split
  · exact Nat.zero_le _
  · rename_i hj
    have h0 : j.natAbs ≠ 0 := by
      intro z
      apply hj
      have : j = 0 := by omega
      rw [this]; rfl
    have := (Nat.log2_lt h0).mpr h
    omega
/-- both factors may be long -/
theorem mulokW (i j : Int) (hi : i.natAbs < 2 ^ 2000) (hj : j.natAbs < 2 ^ 2000) : IntMulOk i j := IntMulOk.of_bits (Nat.le_trans (bits_leW hi) (by decide)) (Nat.le_trans (bits_leW hj) (by decide))
/-! ### a name holds a def: its call -/
structure FnRow (X : Cx) (c : Cn X.K) (j n : Nat) (y : Str) (F : DF) : Prop where
  mn : MnF F
  ex : ∃ st ps k, Df X.prog X.w X.K X.mg X.base c k y st ps F ∧ k ≤ j ∧ ps.length = n ∧ BindP y st ps [] n id
theorem FnRow.of {X : Cx} {c : Cn X.K} {j n k : Nat} {y : Str} {F : DF} {st : Stmt} {ps : List Str} (d : Df X.prog X.w X.K X.mg X.base c k y st ps F) (hk : k ≤ j) (hn : ps.length = n) (hb : BindP y st ps [] n id) : FnRow X c j n y F := ⟨d.mn, st, ps, k, d, hk, hn, hb⟩
def dCallV (i : Nat) (tb : List (Str × DF)) (g : DL) : DR := fun ρ k E => ∃ y F, ρ[i]? = some (some (.fn y)) ∧ (y, F) ∈ tb ∧ g ρ (fun ds => F ds k E) E
section
variable {X : Cx} {c : Cn X.K} {W : WX} {e a b : Expr} {es : List Expr} {pos : Pos} {f g : DV} {j k : Nat}
theorem er_callV {g : DL} {i n : Nat} {x : Str} {tb : List (Str × DF)} {p : Pos} (m : Fm X W j) (rows : ∀ q ∈ tb, FnRow X c j n q.1 q.2) (ha : EA X c W (e :: es) g) (hN : X.N[i]? = some x := by rfl)
    (hv : Vis X.env.scope x := by first | exact Or.inl rfl | exact Or.inr (Or.inl rfl) | exact Or.inr (Or.inr rfl)) (hd : (x == ("__debug__" : Str)) = false := by decide) (hcd : (x == ("__classdict__" : Str)) = false := by decide)
    (hl : (e :: es).length = n := by rfl) (he : starEach (e :: es) X.env = (false, eval e X.env) :: starEach es X.env := by rfl) (hpl : (backTo pos (starEach es X.env)).any (·.1) = false := by rfl) :
    ER X c W (.Call (.Name x p) (e :: es) [] pos) (dCallV i tb g) := by
  refine ⟨fun ρ k k' E E' hk hE ⟨y, F, h1, h2, h3⟩ => ⟨y, F, h1, h2, ha.mn ρ _ _ E E' (fun ds h3 => (rows _ h2).mn ds k k' E E' hk hE h3) hE h3⟩, ⟨fun pins s σ H Q I h => ?_⟩⟩
  obtain ⟨B, ρ, pr, rp, y, F, hy, hF, q⟩ := h
  obtain ⟨v, hσ, his⟩ := rp.2 i _ hy
  cases his
  have pv := (pe_var (X := X) (pos := p) (i := i) hN hv hd hcd).run pins s σ H (fun v H1 => v = .ref (c.ca y) ∧ H1 = H) I ⟨_, hσ, rfl, rfl⟩
  obtain ⟨st, ps, k, d, hk, hn, hb⟩ := (rows _ hF).ex
  refine wpAny_Call_Name_kw (thn pv fun u s0 ⟨v, H0, I0, r0, ev, eH⟩ => ?_)
  subst ev
  subst eH
  obtain rfl : u = Value.ref (c.ca y) := r0
  obtain ⟨kV, doc, pm, an, cdv, ct, F1⟩ := d.ok
  have ht : tL c W g σ H0 fun vs H1 => spD c n F vs H1 Q fun cls d H' => ∀ σ', W cls d σ' H' := by
    refine ⟨B, ρ, pr, rp, ha.mn _ _ _ _ _ (fun ds hd vs B1 H1 s1 i1 => ?_) (fun _ z => z) (ha.len _ _ _ q)⟩
    refine ⟨B1, ds, s1.pre, i1, hd.1.trans hl, (rows _ hF).mn _ _ _ _ _ (fun r hr v B' H' s2 ro => ?_) (fun x hx cls d B' H' s2 xo σ' => ?_) hd.2⟩
    · exact hr v B' H' (s1.trans s2) (ro.up s1)
    · exact hx cls d σ' B' H' (s1.trans s2) xo
  refine PySem.W.callWith_K (h₀ := X.base) I0.ok.mod.kin d.kp (thn (ha.pa.run pos pins s0 σ H0 _ I0 ht) fun us s1 ⟨vs, H1, I1, r, q⟩ => ⟨I1.kIn, ?_⟩) he hpl
  rw [← hn] at q hb
  have lv : us.length = ps.length := by rw [← r.length]; exact F1.len _ _ _ _ q
  have hbt : BindsTo s1 (PySem.W.fnOf y y (defArgs st) (defBody st) (defScope st) .none kV doc pm an cdv ct) ⟨us, []⟩ (ps.zip us) := .of_eq (by
    have z := hb kV doc pm an cdv ct us [] lv rfl
    simpa using z)
  refine wpAny_call (codeAny_mono (run_fnD m F1 hk (fun cls d σ H h => h σ) I1 hbt r q) fun r s' hq => ?_)
  cases r with
  | error e => exact hq
  | ok fl =>
    cases fl with
    | ret u => exact hq
    | next => exact hq.elim
    | brk => exact hq.elim
    | cont => exact hq.elim
end
end Dv

set_option Elab.async false
set_option linter.all false
set_option maxRecDepth 100000
set_option maxHeartbeats 4000000
namespace Dv
open PySem PySem.Spec PyProof.Rows L2
/-! ### y = _law_caught(lambda: found.append(e)) -/
/-- what a lambda that may write does: its body's part by any end of errors -/
structure LamRowG (X : Cx) (c : Cn X.K) (j i : Nat) (tb : L2.XK → TE) : Prop where
  S : LamX.LamS X.env.scope (c.lm i).sc
  q : (c.lm i).q = X.env.qual ++ "<lambda>"
  bind : ∀ (q : Str) (cl : List (Str × Addr)) (pm cv ctv : Value), bindArgs (PySem.W.kla_fn "<lambda>" q (c.lm i).ps (c.lm i).body (c.lm i).sc cl pm cv ctv) ⟨[], []⟩ = pure []
  mn : ∀ (E : L2.XK) (σ : L2.St) (H : Hp) (Q Q' : VK), (∀ v H', Q v H' → Q' v H') → tb E σ H Q → tb E σ H Q'
  pe : ∀ (A : Around) (outer : List Env) (s : Shared) (H : Hp) (E : L2.XK) (f k : Addr), Fm (LX X A outer s H E (c.lm i).sc f k) (FW E) j → PE (LX X A outer s H E (c.lm i).sc f k) (c.lm i).body (tb E)
/-- how such a call ends with an error: it is kept -/
def keepX (K : PySem.W.Frag) (r : Value) (Q : VK) : L2.XK := fun cls d H' => PySem.W.exmOne K cls r = some true ∧ ∀ a, H' a = none → Q (.ref a) (upd H' a (excO a cls d))
def tCaughtG {K : PySem.W.Frag} (c : Cn K) (f : DV) (W : WX) (ix : Nat) (cells : List (Str × Addr)) (r : Value) (tb : L2.XK → TE) : TE := fun σ H Q =>
  ∃ B ρ, Pre c B H ∧ RepV c B σ ρ ∧ f ρ (fun d => d = .lam ix cells ∧ ∀ B1 H1, Step c B H B1 H1 → tb (keepX K r Q) σ H1 fun v H' => Q .non H') (XK c W B H)
section
variable {X : Cx} {ca : Str → Addr} {L : LamP} {P : DrawP} {W : WX} {e : Expr} {pos p : Pos} {f : DV} {j : Nat}
theorem pe_caughtG {x a y n : Str} {st : Stmt} {Ng : List Str} {li ly k0 ix : Nat} {Xs : List Str} {tb : L2.XK → TE} {p1 p2 p3 p4 p5 p6 p7 p8 p9 p10 p11 p12 p13 p14 : Pos} (m : Fm X W j) (hj : 2 ≤ j) (F : CaughtF X.K X.mg ca Xs x st) (hg : Gl X x) (S : FnScope Ng [a] (defScope st)) (hb : BindP x st [a] [] 1 id)
    (hst : defBody st = [.Assign [.Name y p1] (.Constant .none k0 p2) p3, .Try [.Expr (.Call (.Name a p4) [] [] p5) p6] [.ExceptHandler (some (.Name "RingError" p7)) (some n) [.Assign [.Name y p8] (.Name n p9) p10] p11] [] [] p12, .Return (some (.Name y p13)) p14])
    (hNa : Ng[0]? = some a) (hNy : Ng[ly]? = some y) (hNn : Ng[li]? = some n) (hne : li ≠ ly) (hly : 0 < ly) (hla : (defScope st).names.lookup a = some .local) (hlY : (defScope st).names.lookup y = some .local) (hlN : (defScope st).names.lookup n = some .local) (hlR : (defScope st).names.lookup ("RingError" : Str) = some .globalImplicit)
    (hda : (a == ("__debug__" : Str)) = false) (hca : (a == ("__classdict__" : Str)) = false) (hdy : (y == ("__debug__" : Str)) = false) (hcy : (y == ("__classdict__" : Str)) = false) (hdn : (n == ("__debug__" : Str)) = false) (hcn : (n == ("__classdict__" : Str)) = false)
    (he : EV X (cD X.K ca L P) W e f) (row : LamRowG X (cD X.K ca L P) (j - 2) ix tb)
    (hsw1 : ∀ env : Env, swapsWith (.Constant .none k0 p2) (some (.Name y p1)) p3.line env = pure false) (hsw2 : ∀ env : Env, swapsWith (.Call (.Name a p4) [] [] p5) none p6.line env = pure false) (hsw3 : ∀ env : Env, swapsWith (.Name n p9) (some (.Name y p8)) p10.line env = pure false)
    (hse : starEach [e] X.env = (false, eval e X.env) :: starEach [] X.env := by rfl) (hdb : (x == ("__debug__" : Str)) = false := by decide) :
    PE X (.Call (.Name x p) [e] [] pos) (tCaughtG (cD X.K ca L P) f W ix X.env.cells (.ref (ca "RingError")) tb) := by
  refine ⟨fun pins s σ H Q I h => ?_⟩
  obtain ⟨fd, fu⟩ := F.fu
  have kp := fu.kp
  obtain ⟨oc, od, kV, doc, pm0, an, cdv, ct, osl, rfl, lk, hcd⟩ := fu.ex
  refine wpAny_Call_Name_kw (ld_glob I hg F.g ?_ hdb)
  have ha := pa_cons he.pe pa_nil hse
  obtain ⟨B, ρ, p0, rp, q⟩ := h
  have harg : (tCons (tV (cD X.K ca L P) W f) tNil) σ H fun vs H1 => ∃ v B1, vs = [v] ∧ Step (cD X.K ca L P) B H B1 H1 ∧ Is (cD X.K ca L P) B1 v (.lam ix X.env.cells) ∧ tb (keepX X.K (.ref (ca "RingError")) Q) σ H1 fun v H' => Q .non H' := by
    refine ⟨B, ρ, p0, rp, he.mn _ _ _ _ _ (fun d ⟨h1, h3⟩ v B1 H1 s1 i1 => ?_) (fun _ z => z) q⟩
    subst h1
    exact ⟨v, B1, rfl, s1, i1, h3 B1 H1 s1⟩
  refine PySem.W.callWith_K (h₀ := X.base) I.ok.mod.kin kp (thn (ha.run pos pins s σ H _ I harg) fun us s1 ⟨vs, H1, I1, r, v, B1, ev, st1, is, hq⟩ => ⟨I1.kIn, ?_⟩) hse rfl
  subst ev
  have pr := st1.pre
  cases is with
  | @lam _ _ fa k pm ctv hB =>
    obtain ⟨u, rfl, ru⟩ : ∃ u, us = [u] ∧ RelV (.ref fa) u := by
      cases r with
      | cons r1 r2 => cases r2; exact ⟨_, rfl, r1⟩
    obtain rfl : u = Value.ref fa := ru
    have hHf : H1 fa = some (.frz (lamOb ((cD X.K ca L P).lm ix) X.env.cells pm k ctv) (.own 0)) := pr.bh _ _ hB
    have hHk := pr.inv.2.f fa _ _ hHf _ _ _ _ _ rfl
    have hbt : BindsTo s1 (PySem.W.fnOf x x (defArgs st) (defBody st) (defScope st) .none kV doc pm0 an cdv ct) ⟨[.ref fa], []⟩ (([a] : List Str).zip [.ref fa]) := .of_eq (by
      have z := hb kV doc pm0 an cdv ct [.ref fa] [] rfl rfl
      simpa using z)
    have hroom : Room (j - 2 + 1 + 1) X.A := m.room.mono (by omega)
    have lenN : 0 < Ng.length ∧ li < Ng.length ∧ ly < Ng.length := ⟨(List.getElem?_eq_some_iff.mp hNa).1, (List.getElem?_eq_some_iff.mp hNn).1, (List.getElem?_eq_some_iff.mp hNy).1⟩
    have rc : codeAny (model X.prog X.w) X.A (.call (.ref (ca x)) ⟨[.ref fa], []⟩) (CR C8.CX0 X.stack X.prog X.w H1 s1 Q C8.E0) s1 := by
      refine LamX.run_ofS (N := Ng) (ps := [a]) (us := [.ref fa]) (vs := [.ref fa]) lk hcd S hroom I1.env0 hbt (.cons rfl .nil) rfl fun hr' => ?_
      rw [hst]
      have z1 := ps_set (X := cxOf C8.CX0 X.prog X.w X.K X.mg X.base Ng x (defScope st) (ca x) cdv X.A X.stack s1 H1 C8.E0) (pos' := p1) (pos := p3) S.nd hNy (.inl hlY) (pe_non (j := k0) (pos := p2)) (hsw1 _) (.inr hlY)
      have z3 := ps_ret (X := cxOf C8.CX0 X.prog X.w X.K X.mg X.base Ng x (defScope st) (ca x) cdv X.A X.stack s1 H1 C8.E0) (pos := p14) (pe_var (pos := p13) hNy (.inl hlY) hdy hcy)
      have z2 := ps_try_keep (X := cxOf C8.CX0 X.prog X.w X.K X.mg X.base Ng x (defScope st) (ca x) cdv X.A X.stack s1 H1 C8.E0) (np := p7) (yp := p8) (ep := p9) (apos := p10) (pos := p12) (pos' := p11) (body := [.Expr (.Call (.Name a p4) [] [] p5) p6])
        (tb := fun W D σZ HZ => ∃ Ech : L2.XK, (∀ cls d σ' H', Ech cls d H' → W cls d σ' H') ∧ σZ[0]? = some (some (.ref fa)) ∧ HZ fa = some (.frz (lamOb ((cD X.K ca L P).lm ix) X.env.cells pm k ctv) (.own 0)) ∧ HZ k = some (LamX.CodeO k ((cD X.K ca L P).lm ix).q) ∧ tb Ech σ HZ fun _ H' => D.nx σZ H')
        rfl rfl S.nd hNn hlN hNy hlY ⟨hlR, by decide, .inl F.gr⟩ lenN.2.1 rfl hdn hcn (fun W' pn xe tk => ⟨fun pins' s' σ' H' D I' ⟨Ech, hW, h⟩ => ?_⟩) (fun env _ => hsw3 env)
      · refine ⟨_, pss_cons z1 (pss_cons z2 (pss_one z3)), ?_⟩
        refine ⟨keepX X.K (.ref (ca "RingError")) Q, fun cls d σ' H' ⟨k1, k2⟩ => ⟨k1, fun a' ha' hl => ⟨.ref a', ?_, k2 a' ha'⟩⟩, ?_, hHf, hHk, ?_⟩
        · have hl' : σ'.length = Ng.length := hl
          rw [List.getElem?_set_ne hne, List.getElem?_set_self (by rw [List.length_set, hl']; exact lenN.2.2)]
        · rw [List.getElem?_set_ne (by omega)]
          rfl
        · refine row.mn _ _ _ _ _ (fun v H' hQ => ⟨.non, ?_, hQ⟩) hq
          rw [List.getElem?_set_self]
          rw [start_len (by exact lenN.1)]; exact lenN.2.2
      · have hp := pe_lamCall (pn := pn) (xe := xe) (p1 := p4) (p2 := p5) (f := fa) (k := k) (pm := pm) (ctv := ctv) (g := ca x) (cdg := cdv) (i := 0) (E := Ech) (tb := tb Ech) I1 row.S row.q row.bind tk hW hr' (fun A outer s0 H0 eA hr2 => row.pe A outer s0 H0 Ech fa k (m.lam eA hr2)) hNa (.inl hla) hda hca
        exact (pss_one (ps_expr (pos := p6) hp (hsw2 _))).run pins' s' σ' H' D I' h
    refine wpAny_call (codeAny_mono rc fun r s2 hq => ?_)
    cases r with
    | error e => exact (show False from hq).elim
    | ok fl =>
      cases fl with
      | ret u => exact I1.after hq
      | next => exact hq.elim
      | brk => exact hq.elim
      | cont => exact hq.elim
/-- .. the statement: l the list, i the name of the error -/
def sCaughtApp (Xs : List Str) (l i : Nat) (f : DV) : DS := fun ρ k E => ∃ ds, ρ[l]? = some (some (.own ds)) ∧ f (viewN ρ) (fun d => ds.length < sizeLine ∧ k.nx ((ρ.set l (some (.own (ds ++ [d])))).set i (some (.val .non)))) (fun x => x.C ∈ Xs ∧ k.nx (ρ.set i (some (.val (.xcp x.C x.fs)))))
def tAppL (K : PySem.W.Frag) (c : Cn K) (l : Nat) (f : DV) (E : L2.XK) : TE := tBM K "list" rAppend (tVar l) (tCons (tV c (FW E) f) tNil)
theorem appL_mn {K : PySem.W.Frag} {c : Cn K} {l : Nat} {f : DV} (hf : Mn f) (E : L2.XK) (σ : L2.St) (H : Hp) (Q Q' : VK) (h : ∀ v H', Q v H' → Q' v H') (q : tAppL K c l f E σ H Q) : tAppL K c l f E σ H Q' := by
  obtain ⟨x, e1, t, B, ρ, p, rp, z⟩ := q
  refine ⟨x, e1, t, B, ρ, p, rp, hf _ _ _ _ _ (fun d hd v B' H' s i => ?_) (fun _ z => z) z⟩
  obtain ⟨l', xs, y, k1, k2, k3, k4, k5⟩ := hd v B' H' s i
  exact ⟨l', xs, y, k1, k2, k3, k4, h _ _ k5⟩
theorem ss_caughtApp {x a y n : Str} {st : Stmt} {Ng : List Str} {li ly k0 ix i l : Nat} {Xs : List Str} {b : DV} {e2 : Expr} {w found : Str} {p1 p2 p3 p4 p5 p6 p7 p8 p9 p10 p11 p12 p13 p14 pw pf apos cpos spos : Pos} (m : Fm X W j) (hj : 2 ≤ j) (F : CaughtF X.K X.mg ca Xs x st) (hg : Gl X x) (S : FnScope Ng [a] (defScope st)) (hb : BindP x st [a] [] 1 id)
    (hst : defBody st = [.Assign [.Name y p1] (.Constant .none k0 p2) p3, .Try [.Expr (.Call (.Name a p4) [] [] p5) p6] [.ExceptHandler (some (.Name "RingError" p7)) (some n) [.Assign [.Name y p8] (.Name n p9) p10] p11] [] [] p12, .Return (some (.Name y p13)) p14])
    (hNa : Ng[0]? = some a) (hNy : Ng[ly]? = some y) (hNn : Ng[li]? = some n) (hne : li ≠ ly) (hly : 0 < ly) (hla : (defScope st).names.lookup a = some .local) (hlY : (defScope st).names.lookup y = some .local) (hlN : (defScope st).names.lookup n = some .local) (hlR : (defScope st).names.lookup ("RingError" : Str) = some .globalImplicit)
    (hda : (a == ("__debug__" : Str)) = false) (hca : (a == ("__classdict__" : Str)) = false) (hdy : (y == ("__debug__" : Str)) = false) (hcy : (y == ("__classdict__" : Str)) = false) (hdn : (n == ("__debug__" : Str)) = false) (hcn : (n == ("__classdict__" : Str)) = false)
    (he : EV X (cD X.K ca L P) W e (dC (.lam ix X.env.cells)))
    (SL : LamX.LamS X.env.scope ((cD X.K ca L P).lm ix).sc) (hq : ((cD X.K ca L P).lm ix).q = X.env.qual ++ "<lambda>")
    (hbind : ∀ (q : Str) (cl : List (Str × Addr)) (pm cv ctv : Value), bindArgs (PySem.W.kla_fn "<lambda>" q ((cD X.K ca L P).lm ix).ps ((cD X.K ca L P).lm ix).body ((cD X.K ca L P).lm ix).sc cl pm cv ctv) ⟨[], []⟩ = pure [])
    (hbd : ((cD X.K ca L P).lm ix).body = .Call (.Attribute (.Name found pf) "append" apos) [e2] [] cpos)
    (hx : ∀ (A : Around) (outer : List Env) (s : Shared) (H : Hp) (E : L2.XK) (f k : Addr), PE (LX X A outer s H E ((cD X.K ca L P).lm ix).sc f k) (.Name found pf) (tVar l) ∧ M1Ok (LX X A outer s H E ((cD X.K ca L P).lm ix).sc f k) e2 apos cpos)
    (ev : ∀ (A : Around) (outer : List Env) (s : Shared) (H : Hp) (E : L2.XK) (f k : Addr), Fm (LX X A outer s H E ((cD X.K ca L P).lm ix).sc f k) (FW E) (j - 2) → EV (LX X A outer s H E ((cD X.K ca L P).lm ix).sc f k) (cD X.K ca L P) (FW E) e2 b)
    (hsw1 : ∀ env : Env, swapsWith (.Constant .none k0 p2) (some (.Name y p1)) p3.line env = pure false) (hsw2 : ∀ env : Env, swapsWith (.Call (.Name a p4) [] [] p5) none p6.line env = pure false) (hsw3 : ∀ env : Env, swapsWith (.Name n p9) (some (.Name y p8)) p10.line env = pure false)
    (hi : X.N[i]? = some w := by rfl) (hw : Loc X.env.scope w := by first | exact Or.inl rfl | exact Or.inr rfl) (hf : X.fn w = true ∨ X.env.scope.names.lookup w = some .local := by first | exact .inl rfl | exact .inr rfl)
    (hsw : swapsWith (.Call (.Name x p) [e] [] pos) (some (.Name w pw)) spos.line X.env = pure false := by rfl)
    (hse : starEach [e] X.env = (false, eval e X.env) :: starEach [] X.env := by rfl) (hdb : (x == ("__debug__" : Str)) = false := by decide) :
    SS X (cD X.K ca L P) W (.Assign [.Name w pw] (.Call (.Name x p) [e] [] pos) spos) (sCaughtApp Xs l i b) := by
  have hmn : Mn b := by
    have hr : Room (j - 2 + 1 + 1) X.A := m.room.mono (by omega)
    exact (ev _ [] {} (fun _ => none) (fun _ _ _ => False) 0 0 (m.lam (env := X.env) rfl ((hr.deeper _).deeper _))).mn
  have row : LamRowG X (cD X.K ca L P) (j - 2) ix (tAppL X.K (cD X.K ca L P) l b) := ⟨SL, hq, hbind, fun E σ H Q Q' h q => appL_mn hmn E σ H Q Q' h q, fun A outer s H E f k mm => by
    rw [hbd]
    obtain ⟨h1, h2⟩ := hx A outer s H E f k
    exact pe_app h1 (ev A outer s H E f k mm).pe h2⟩
  have hpe := pe_caughtG (p1 := p1) (p2 := p2) (p3 := p3) (p4 := p4) (p5 := p5) (p6 := p6) (p7 := p7) (p8 := p8) (p9 := p9) (p10 := p10) (p11 := p11) (p12 := p12) (p13 := p13) (p14 := p14) (pos := pos) (p := p) m hj F hg S hb hst hNa hNy hNn hne hly hla hlY hlN hlR hda hca hdy hcy hdn hcn he row hsw1 hsw2 hsw3 hse hdb
  refine ⟨fun ρ k k' E E' hk hE ⟨ds, h1, h2⟩ => ⟨ds, h1, hmn _ _ _ _ _ (fun d q => ⟨q.1, hk.nx _ q.2⟩) (fun x q => ⟨q.1, hk.nx _ q.2⟩) h2⟩, wkS (ps_set m.nd hi hw hpe hsw hf) ?_⟩
  rintro D σ H ⟨H0, B0, B, ρ, r, ds, h1, q⟩
  refine ⟨B, _, r.pre, r.viewN, rfl, fun B1 H1 s1 => ?_⟩
  have r1 := r.goN s1
  obtain ⟨a', vs, e1, e2', e3, e4, e5⟩ := r1.sl l _ h1
  refine ⟨_, e1, own_ty e2', B1, _, r1.pre, r1.viewN, hmn _ _ _ _ _ (fun d hd v B2 H2 s2 i2 => ?_) (fun xn hxn cls d σ' B' H' s2 xo => ?_) q⟩
  · have r2 := r1.goN s2
    obtain ⟨a2, vs', k1, k2, k3, k4, k5⟩ := r2.sl l _ h1
    rw [e1] at k1; cases k1
    refine ⟨a', vs', v, rfl, rfl, k2, by rw [k3.length]; exact hd.1, ?_⟩
    exact hd.2 _ B2 _ ((r2.mut h1 e1 (k3.append (.cons i2 .nil))).setV .non) (s1.trans s2).b
  · obtain ⟨hx1, hx2⟩ := hxn
    obtain ⟨rfl, xo2⟩ := xo
    refine ⟨F.ex _ hx1, fun a3 ha3 => ?_⟩
    have st3 := Step.new s2.pre ha3 (excO a3 (.ref (ca xn.C)) d) (fun _ _ z => by unfold excO at z; cases z)
    have bn := s2.pre.bnone ha3
    have r3 := (r1.goN s2).goN st3
    refine hx2 _ _ _ (r3.setV ?_) (s1.trans (s2.trans st3)).b
    rcases xo2 with ⟨q1, rfl⟩ | ⟨dx, gs, rfl, q2, q3⟩
    · rw [q1]; exact .xcp0 upd_same (F.xc _ hx1)
    · exact .xcp1 upd_same (Same.new bn _ _ q2) (F.xc _ hx1) (q3.mono (Same.new bn))
end
end Dv

set_option Elab.async false
set_option linter.all false
set_option maxRecDepth 100000
set_option maxHeartbeats 4000000
namespace PySem.W
open PySem PySem.Spec PySem.Calls PyProof.Rows
section
variable {prog : Program} {w : World} {A : Around} {E : Value → Shared → Prop} {s : Shared} {K : Frag} {x C L f : Addr} {h₀ : Heap} {m : Str → Option Value} {ox : Obj} {od : Option Obj} {b tb : Value}
theorem dv_ifBoundB {M : Model} {name : Str} {id : String} {args : List Value} {Q : Option Value → Shared → Prop} (X : K.In s.heap) (I : InstAt s.heap x ox C od) (hs : findIn K (.ref C) name = some (some (.builtin id)))
    (hb : ∀ self, bindSpecial (.builtin id) self = pure (.builtin id, [self])) (h : wpAny M A (call (.builtin id) (.ref x :: args)) (fun v => Q (some v)) E s) : wpAny M A (callSpecialIfBound? (.ref x) name args) Q E s := by
  simp only [callSpecialIfBound?, bindSpecialIfBound?]
  refine wpAny_holding (wpAny_bind (wpAny_bind (wpAny_bind (I.type.here ((looks_findIn X hs).here ?_)))))
  refine wpAny_bind (wpAny_askSetting (wpAny_ite ?_))
  have fin : wpAny M A (call (.builtin id) ([.ref x] ++ args) >>= fun v => pure (some v)) Q E s := wpAny_bind (wpAny_mono h (fun v s' h' => wpAny_pure h') fun _ _ h' => h')
  split
  · exact wpAny_bind ((Looks.of_pure (hb _)).here (wpAny_pure (by exact fin)))
  · exact wpAny_tryCatch (wpAny_bind ((Looks.of_pure (hb _)).here (wpAny_pure (by exact fin))))
open Builtin in
theorem dv_one {Q : Value → Shared → Prop} (hu : A.in1.units < cLine) (X : K.In s.heap) (I : InstAt s.heap x ox C od) (hm : mroIn K C (.type "object") = some true) (he : findIn K (.ref C) "__eq__" = some (some (.ref f))) (hf : isFn K (.ref f) = true)
    (h : wpAny (model prog w) A.in1 (call (.ref f) [.ref x, b]) (fun v s' => ∃ z, v = .bool z ∧ Q (.bool (!z)) s') E s) : wpAny (model prog w) A (call (.builtin "object.__ne__") [.ref x, b]) Q E s := by
  refine wpAny_call (codeAny_call_builtin F.cmp_object.ne.plain F.cmpEntry_ne (check_slot (i := "object.__ne__") (owner := "object") (n := "__ne__") F.cmpKind_ne F.cmpSplit_ne (I.type.andThen (looks_mroIn X hm)) (F.cmpArgs_ne _ _) ?_))
  unfold Builtin.«object.__ne__»
  refine wpAny_bind (m := slotArgs "__ne__" 1 _) (wpAny_pure ?_)
  refine wpAny_bind (m := cRoomFor _ _) (wpAny_cRoomFor hu ?_)
  refine wpAny_bind (m := callSpecialIfBound? (.ref x) (Str.ofString "__eq__") _) (ifBound_K X I he hf (wpAny_mono h (fun r s' hq => ?_) fun _ _ y => y))
  obtain ⟨z, rfl, hq⟩ := hq
  exact wpAny_bind (m := truthy (.bool _)) (wpAny_truthy_bool (wpAny_pure hq))
theorem dv_ne_K {Q : Value → Shared → Prop} (hu : A.in1.units < cLine) (hu0 : A.units < cLine) (F : Fr h₀ L s.heap m) (X₀ : K.In h₀) (I : InstAt s.heap x ox C od) (hb : Looks (model prog w) s.heap (typeOf b) tb) (hn : notFirst K C tb = true)
    (hne : findIn K (.ref C) "__ne__" = some (some (.builtin "object.__ne__"))) (hm : mroIn K C (.type "object") = some true) (he : findIn K (.ref C) "__eq__" = some (some (.ref f))) (hf : isFn K (.ref f) = true)
    (h : wpAny (model prog w) A.in1 (call (.ref f) [.ref x, b]) (fun v s' => ∃ z, v = .bool z ∧ Q (.bool (!z)) s') E s) : wpAny (model prog w) A (richCompare .NotEq (.ref x) b) Q E s := by
  have X := X₀.keeps F.keep
  have one : wpAny (model prog w) A (tryCompare (.ref x) "__ne__" b) (fun r s' => ∃ v, r = some v ∧ Q v s') E s := by
    unfold tryCompare
    have z1 : wpAny (model prog w) A (call (.builtin "object.__ne__") [.ref x, b]) (fun v s' => (∃ z, v = .bool z) ∧ Q v s') E s := by
      refine dv_one hu X I hm he hf (wpAny_mono h (fun v s' hv => ?_) fun _ _ e => e)
      obtain ⟨z, e, hq⟩ := hv
      exact ⟨z, e, ⟨_, rfl⟩, hq⟩
    refine wpAny_bind (dv_ifBoundB X I hne PySem.F.cmp_object.ne.bind (wpAny_mono z1 (fun v s' hv => ?_) fun _ _ e => e))
    obtain ⟨⟨z, rfl⟩, hq⟩ := hv
    exact wpAny_pure ⟨_, rfl, hq⟩
  unfold richCompare
  simp only [oneThing_ref]
  refine wpAny_holding (wpAny_bind (wpAny_cRoomFor hu0 ?_))
  refine wpAny_bind (I.type.here (wpAny_bind (hb.here ?_)))
  split
  · rename_i q
    have e : subIn K tb (.ref C) = some false := by
      rcases Bool.or_eq_true_iff.mp hn with e | e
      · rw [beq_iff_eq.mp e] at q; simp at q
      · exact beq_iff_eq.mp e
    refine wpAny_bind ((looks_subIn X e).here ?_)
    simp only [Bool.false_eq_true, if_false]
    refine wpAny_bind (wpAny_mono one (fun r s' z => ?_) fun _ _ e => e)
    obtain ⟨v, rfl, hq⟩ := z
    exact wpAny_pure hq
  · refine wpAny_bind (wpAny_pure ?_)
    simp only [Bool.false_eq_true, if_false]
    refine wpAny_bind (wpAny_mono one (fun r s' z => ?_) fun _ _ e => e)
    obtain ⟨v, rfl, hq⟩ := z
    exact wpAny_pure hq
end
end PySem.W
namespace Dv
open PySem PySem.Spec PyProof.Rows L2
structure NeC (K : PySem.W.Frag) (C : Addr) : Prop where
  ne : PySem.W.findIn K (.ref C) "__ne__" = some (some (.builtin "object.__ne__"))
  hm : PySem.W.mroIn K C (.type "object") = some true
def dNeO (C : Str) (F : DF) : D → D → (Bool → Prop) → Prop := fun d e k => dEqO C F d e fun b => k (!b)
section
variable {X : Cx} {c : Cn X.K} {W : WX} {a b : Expr} {pos : Pos} {f g : DV} {j k : Nat}
theorem op_neO {C fI : Addr} {fd : FuncData} {sp : Sp} (m : Fm X W (j + 1)) (F : FnD X.prog X.w X.K X.mg X.base k fI fd ["self", "other"] sp) (hk : k ≤ j) (hc : EqC X.K C fI) (hn : NeC X.K C) (hb : ∀ (s : Shared) (u v : Value), BindsTo s fd ⟨[u, v], []⟩ [("self", u), ("other", v)]) :
    OpR X (compareOp .NotEq) (fun x y H Q => ∃ (a dx : Addr) (fs : List (Str × V)) (t : Value), x = .ref a ∧ H a = some (.ins C dx fs) ∧ TyX X.K H y t ∧ PySem.W.notFirst X.K C t = true ∧ sp [x, y] H (fun v H' => ∃ b, v = .bl b ∧ Q (.bl (!b)) H') (fun _ _ _ => False)) := by
  intro pins s σ H x y v u Q I rx ry h
  obtain ⟨a, dx, fs, t, rfl, ha, ty, hnf, hsp⟩ := h
  obtain rfl : v = Value.ref a := rx
  obtain ⟨mA, J, _⟩ := ins_get I.hok ha
  obtain ⟨od, J, _⟩ := J.look
  obtain ⟨P, Z, p, hx⟩ := kit_of I ry ty
  obtain ⟨mm, hF⟩ := I.fr
  have hr1 : Room j X.A.in1 := m.room.in1
  have e0 : Env0 X.prog X.w X.K X.mg X.base X.A.in1 X.stack s H := by
    have e := I.env0
    exact ⟨e.frames, e.mod, e.bs, e.bsz, e.funs, e.frf, e.hok, e.bare⟩
  show wpAny _ _ (richCompare .NotEq (.ref a) u) _ _ _
  refine PySem.W.dv_ne_K (tb := t) (by have := hr1.un; omega) (by have := m.hu; omega) hF I.ok.mod.kin J (Z.ty _ _ I.kIn p) hnf hn.ne hn.hm hc.fi hc.fn ?_
  refine wpAny_call (codeAny_mono (F.run X.A.in1 X.stack s H ⟨[.ref a, u], []⟩ [.ref a, u] [V.ref a, y] _ _ m.gd (hr1.mono hk) e0 (hb s _ _) (.cons (show RelV (V.ref a) (Value.ref a) from rfl) (.cons ry .nil)) hsp) fun r s' hq => ?_)
  cases r with
  | error e => exact passes_call m.tk (fun _ _ _ _ h => h.elim) pins σ H s e s' I hq
  | ok fl =>
    cases fl with
    | ret w =>
      obtain ⟨z, H', I', rz, b, rfl, q⟩ := I.after hq
      cases rz
      exact ⟨b, rfl, .bl (!b), H', I', rfl, q⟩
    | next => exact hq.elim
    | brk => exact hq.elim
    | cont => exact hq.elim
theorem opcs_neO {P : Program} {w : World} {mg : Str → Option Value} {base : Heap} {C fI : Addr} {Cn' : Str} {F : DF} (mn : MnF F) (hC : C = c.ca Cn') (hc : EqC X.K C fI) :
    OpCS c (fun x y H Q => ∃ (a dx : Addr) (fs : List (Str × V)) (t : Value), x = .ref a ∧ H a = some (.ins C dx fs) ∧ TyX X.K H y t ∧ PySem.W.notFirst X.K C t = true ∧ spD c 2 F [x, y] H (fun v H' => ∃ b, v = .bl b ∧ Q (.bl (!b)) H') (fun _ _ _ => False)) (dNeO Cn' F) := by
  subst hC
  refine ⟨fun d e k k' hk ⟨h1, h2, h3⟩ => ⟨h1, h2, mn _ _ _ _ _ (fun r ⟨b, e, z⟩ => ⟨b, e, hk _ z⟩) (fun _ z => z) h3⟩, ?_⟩
  intro B H x y d e Q k p hx hy q K
  obtain ⟨⟨fs, rfl⟩, h2, h3⟩ := q
  cases hx with
  | @obj a dx _ vs _ hB o r =>
    have key : ∃ t, e.ty c = some t ∧ PySem.W.notFirst X.K (c.ca Cn') t = true := by
      rcases h2 with ⟨gs, rfl⟩ | ⟨T, hT, ht⟩
      · exact ⟨_, rfl, by simp [PySem.W.notFirst]⟩
      · exact ⟨_, tn_ty c ht, by unfold PySem.W.notFirst; rw [hc.nf T hT]; simp⟩
    obtain ⟨t, ht, hn⟩ := key
    refine ⟨a, dx, vs, t, rfl, p.bh _ _ hB, hy.tyx p.bh ht, hn, B, _, p, .cons (.obj hB o r) (.cons hy .nil), rfl, mn _ _ _ _ _ (fun rv hr v B' H' s ro => ?_) (fun x hx cls d B' H' s xo => hx) h3⟩
    obtain ⟨b, rfl, hk⟩ := hr
    cases ro
    exact ⟨b, rfl, K (!b) B' H' s hk⟩
theorem ev_neO {C q : Str} {st : Stmt} {F : DF} (m : Fm X W (j + 1)) (d : Dq X.prog X.w X.K X.mg X.base c k C q st F) (hk : k ≤ j) (hn : NeC X.K (c.ca C)) (ha : EV X c W a f) (hb : EV X c W b g) : EV X c W (.Compare a [.NotEq] [b] pos) (bV (cBin f g (dNeO C F))) := by
  obtain ⟨fI, kV, doc, pm, an, cdv, ct, hc, F1⟩ := d.ok
  exact ev_cmpS (op_neO m F1 hk hc hn (d.bd kV doc pm an cdv ct)) (opcs_neO (P := X.prog) (w := X.w) (mg := X.mg) (base := X.base) d.mn rfl hc) ha hb (nomark _)
theorem eb_neO {C q : Str} {st : Stmt} {F : DF} (m : Fm X W (j + 1)) (d : Dq X.prog X.w X.K X.mg X.base c k C q st F) (hk : k ≤ j) (hn : NeC X.K (c.ca C)) (ha : EV X c W a f) (hb : EV X c W b g) : EB X c W (.Compare a [.NotEq] [b] pos) (cBin f g (dNeO C F)) := by
  obtain ⟨fI, kV, doc, pm, an, cdv, ct, hc, F1⟩ := d.ok
  exact eb_cmpS (op_neO m F1 hk hc hn (d.bd kV doc pm an cdv ct)) (opcs_neO (P := X.prog) (w := X.w) (mg := X.mg) (base := X.base) d.mn rfl hc) ha hb (nomark _)
end
end Dv

set_option Elab.async false
set_option linter.all false
set_option maxRecDepth 100000
set_option maxHeartbeats 4000000
namespace Dv
open PySem PySem.Spec PyProof.Rows L2
theorem law_fnL2 {P : Program} {w : World} {K : PySem.W.Frag} {mg : Str → Option Value} {base : Heap} {ca : Str → Addr} {L : LamP} {x xb xd : Str} {st stb : Stmt} {fb : Addr} {N ps psb : List Str} {k kb n i : Nat} {o : Bool} {b : List (Str × Addr) → DS} {rest : List Stmt} {pd pb ps1 pc pa : Pos} {kVb docb pmb cdvb ctb : Value} {anb : Option Addr}
    {oc : Value} {od : Option Addr} {kV doc pm : Value} {an : Option Addr} {ct : Value} {osl : Array (Option Value)} {cx T : Addr} (lk : K.lookup (ca x) = some ⟨oc, od, .func (PySem.W.fnOf x x (defArgs st) (defBody st) (defScope st) .none kV doc pm an (.ref cx) ct), osl⟩) (hcd : PySem.W.codeIn K (.ref cx) x = true) (tb : LamX.TabB base mg cx T) (m1 : (T, lamQ x st) ∈ L.T) (m2 : ∀ p ∈ L.T, p.1 = T → p.2 = lamQ x st) (S : FnScope N ps (defScope st)) (hp : ps.length = 1) (hps : psb.length = 1) (hN : N.length = n + 1) (hi : N[i]? = some xd) (hi0 : 0 < i) (hx0 : ∃ x0, N[0]? = some x0 ∧ Vis (defScope st) x0 ∧ (x0 == ("__debug__" : Str)) = false ∧ (x0 == ("__classdict__" : Str)) = false ∧ defBody st = .Assign [.Name xd pd] (.Call (.Name xb pb) [.Name x0 pa] [] pc) ps1 :: rest)
    (hl : Loc (defScope st) xd) (hlf : (∀ (cdv : Value) (A : Around) (outer : List Env) (s : Shared) (H : Hp) (E : L2.XK), (FX P w K mg base N x st (ca x) cdv A outer s H E).fn xd = true) ∨ (defScope st).names.lookup xd = some .local) (hgb : ∀ (cdv : Value) (A : Around) (outer : List Env) (s : Shared) (H : Hp) (E : L2.XK), Gl (FX P w K mg base N x st (ca x) cdv A outer s H E) xb) (hdb : (xb == ("__debug__" : Str)) = false)
    (hsw : ∀ (cdv : Value) (A : Around) (outer : List Env) (s : Shared) (H : Hp) (E : L2.XK) (x0 : Str), swapsWith (.Call (.Name xb pb) [.Name x0 pa] [] pc) (some (.Name xd pd)) ps1.line (FX P w K mg base N x st (ca x) cdv A outer s H E).env = pure false)
    (hse : ∀ (cdv : Value) (A : Around) (outer : List Env) (s : Shared) (H : Hp) (E : L2.XK) (x0 : Str), starEach [.Name x0 pa] (FX P w K mg base N x st (ca x) cdv A outer s H E).env = (false, eval (.Name x0 pa) (FX P w K mg base N x st (ca x) cdv A outer s H E).env) :: starEach [] (FX P w K mg base N x st (ca x) cdv A outer s H E).env)
    (mb : mg xb = some (.ref fb)) (kpb : PySem.W.keepIn K (.ref fb) = true) (FB : FnD P w K mg base kb fb (PySem.W.fnOf xb xb (defArgs stb) (defBody stb) (defScope stb) .none kVb docb pmb anb cdvb ctb) psb (spB K ca L o)) (hkb : kb ≤ k) (hbb : BindP xb stb psb [] psb.length id)
    (hrest : ∀ (cdv : Value) (A : Around) (outer : List Env) (s : Shared) (H : Hp) (E : L2.XK), Fm (FX P w K mg base N x st (ca x) cdv A outer s H E) (FW E) k → LamC (FX P w K mg base N x st (ca x) cdv A outer s H E) L → ∀ Pd : DrawP, SB (FX P w K mg base N x st (ca x) cdv A outer s H E) (cD K ca L Pd) (FW E) rest (b (FX P w K mg base N x st (ca x) cdv A outer s H E).env.cells))
    (hF : ∀ ns : List Int, ns.length ≤ 63 → ∀ tk, MnS (b tk) → b tk ((some (.val (.ro (ns.map .int))) :: List.replicate n none).set i (some (.val .drw))) ⟨fun _ => False, fun r => r = .val (.bl true), fun _ => False, fun _ => False⟩ (fun _ => False)) :
    FnD P w K mg base (k + 1) (ca x) (PySem.W.fnOf x x (defArgs st) (defBody st) (defScope st) .none kV doc pm an (.ref cx) ct) ps (spL K L) := by
  refine fnd_ofC lk hcd S (fun vs H Q E ⟨a, ns, e, _⟩ => by rw [e, hp]; rfl) fun A outer s H vs Q E m ⟨a, ns, e, hs, hlen, hL, kq⟩ => ?_
  have cdvE : ∃ cdv : Value, cdv = .ref cx := ⟨_, rfl⟩
  obtain ⟨cdv, ecd⟩ := cdvE
  rw [← ecd] at m ⊢
  subst e
  obtain ⟨x0, hN0, hv0, hd0, hc0, hbody⟩ := hx0
  have hr := hrest cdv A outer s H E m ⟨cx, T, tb, ecd, m1, m2⟩
  have pv0 : PE (FX P w K mg base N x st (ca x) cdv A outer s H E) (.Name x0 pa) (tVar 0) := pe_var hN0 hv0 hd0 hc0
  have call := pe_callF (p := pb) (pos := pc) (st := stb) m FB hkb (hgb cdv A outer s H E) mb kpb hbb (pa_cons pv0 pa_nil (hse cdv A outer s H E x0)) hdb (hse cdv A outer s H E x0) rfl
  have st0 := ps_set (pos' := pd) (pos := ps1) m.nd hi hl call (hsw cdv A outer s H E x0) (hlf.elim (fun h => .inl (h cdv A outer s H E)) .inr)
  refine ⟨_, hbody ▸ pss_cons st0 (pss_ex fun Pd => (hr Pd).ps), ?_⟩
  have h0 : (L2.start N [.ref a])[0]? = some (some (.ref a)) := rfl
  obtain ⟨B, hB1, hB2, hB3⟩ : ∃ B : Hp, Same B H ∧ (∀ b, L.mu b → B b = none) ∧ SqL K B a (ns.map V.int) := by
    classical
    refine ⟨fun b => if L.mu b then none else H b, fun b u z => ?_, fun b m => if_pos m, ?_⟩
    · have z' : (if L.mu b then none else H b) = some u := z
      by_cases m : L.mu b
      · rw [if_pos m] at z'; cases z'
      · rw [if_neg m] at z'; exact z'
    · have nm : ∀ u, H a = some u → (∀ ps, u ≠ .tbl ps) → ¬ L.mu a := fun u e n m => by
        obtain ⟨ps, z⟩ := hL.dm m
        rw [e] at z; exact n ps (Option.some.inj z)
      rcases hs with (h | ⟨o, h⟩) | h
      · exact .inl (.inl ((if_neg (nm _ h fun ps z => nomatch z)).trans h))
      · exact .inl (.inr ⟨o, (if_neg (nm _ h fun ps z => nomatch z)).trans h⟩)
      · exact .inr h
  refine ⟨_, h0, B, a, ns, ⟨hB1, hL, hB2⟩, rfl, hB3, hlen, fun Pd H' ls ho sm z1 z2 z3 n1 n2 n3 dr hL' => ?_⟩
  have p1 : Pre (cD K ca L Pd) B H' := ⟨sm, ⟨⟨n1, n2, n3, ls, 0, 0, dr⟩, hL'⟩, fun b m => by
    rcases m with (rfl | rfl | rfl) | m
    · exact z1
    · exact z2
    · exact z3
    · exact hB2 b m⟩
  have il : ∀ ns : List Int, IsL (cD K ca L Pd) B (ns.map V.int) (ns.map D.int) := fun ns => by
    induction ns with
    | nil => exact .nil
    | cons n ns ih => exact .cons (.int n) ih
  have r0 := rep_start (N := N) p1 (.cons (.ro hB3 (il ns)) .nil) (by rw [hN]; exact Nat.succ_le_succ (Nat.zero_le n))
  have hst : startD N.length [D.ro (ns.map .int)] = some (.val (.ro (ns.map .int))) :: List.replicate n none := by rw [hN]; rfl
  rw [hst] at r0
  have hil : i < N.length := (List.getElem?_eq_some_iff.mp hi).1
  have r1 := r0.setV (i := i) (v := .ref Pd.dd) (d := .drw) .drw
  refine ⟨Pd, H', B, B, _, r1, (hr Pd).mn _ ⟨fun _ => False, fun r => r = .val (.bl true), fun _ => False, fun _ => False⟩ _ (fun _ => False) _ ⟨fun _ z => z.elim, fun r e v B' H2 st ro => ?_, fun _ z => z.elim, fun _ z => z.elim⟩ (fun _ z => z.elim) (hF ns hlen _ (hr Pd).mn)⟩
  subst e
  cases ro
  exact kq H2
end Dv

set_option Elab.async false
set_option linter.all false
set_option maxRecDepth 100000
set_option maxHeartbeats 4000000
/-! sorted(xs) of one argument: ints, or pairs of ints; of a list or of a tuple -/
namespace Dv
open PySem PySem.Spec PyProof.Rows L2
section
variable {prog : Program} {w : World} {A : Around} {E : Value → Shared → Prop} {s : Shared}
theorem collect_tup {l : Addr} {vs : List Value} {Q : List Value → Shared → Prop} (hl : ∃ o, s.heap.get? l = some o ∧ o.cls = .type "tuple" ∧ ∃ n, o.data = .seq vs.toArray n)
    (h : Q vs { s with heap := (s.heap.push (seqObj "list" #[] 0)).update s.heap.objs.size (Obj.mapSeq (· ++ vs.toArray)) }) (hsz : vs.length ≤ sizeLine) :
    wpAny (model prog w) A (collect (.ref l)) Q E s := by
  obtain ⟨o, ho, hc, n, hd⟩ := id hl
  unfold collect
  refine wpAny_bind (wpAny_runValue (codeAny_builtin entry_proto_collect' ?_))
  show wpAny _ _ (do again (.builtin "list.__iadd__" ⟨[← newList [], .ref l], []⟩)) _ _ s
  refine wpAny_bind (wpAny_newList (wpAny_pure ⟨Code.quiet_builtin _ (by decide +kernel), codeAny_builtin entry_list_iadd' ?_⟩))
  show wpAny _ _ (Builtin.List.listExtendWith (.ref s.heap.objs.size) (.ref l) (.ref s.heap.objs.size)) _ _ { s with heap := s.heap.push (seqObj "list" #[] 0) }
  unfold Builtin.List.listExtendWith
  have ho' : (s.heap.push (seqObj "list" #[] 0)).get? l = some o := Heap.get?_push_of_some _ ho
  refine wpAny_bind (wpAny_typeOf (T := "tuple") ⟨o, ho', hc⟩ ?_)
  have ht : (Value.type "tuple" == Value.type "tuple") = true := by rfl
  rw [if_pos (by rw [ht]; simp)]
  refine wpAny_bind (listItems_at ho' hd ?_)
  refine wpAny_bind (listItems_at (xs := #[]) (n := 0) (Heap.get?_push_size _ rfl) rfl ?_)
  rw [if_neg (by simp)]
  refine wpAny_bind (listUpdate_at (xs := #[]) (n := 0) (Heap.get?_push_size _ rfl) rfl ?_ (Nat.zero_le _) (by show (#[] ++ vs.toArray).size ≤ sizeLine + 1; simp only [Array.size_append, List.size_toArray, List.length_nil]; omega))
  refine wpAny_pure ?_
  show wpAny (model prog w) A (do
      let o ← load s.heap.objs.size
      match o.data with
      | .seq xs _ => pure xs.toList
      | _ => unsupported "internal:collect") Q E { s with heap := (s.heap.push (seqObj "list" #[] 0)).update s.heap.objs.size (Obj.mapSeq (· ++ vs.toArray)) }
  refine wpAny_bind (wpAny_load (get?_update_seq (Heap.get?_push_size _ rfl) _) ?_)
  show wpAny _ _ (pure ((#[] : Array Value) ++ vs.toArray).toList) Q E _
  rw [show ((#[] : Array Value) ++ vs.toArray).toList = vs by simp]
  exact wpAny_pure h
open SrtO in
theorem sorted_tup {l : Addr} {vs : List Value} {ltv : Value → Value → Bool} {Q : Value → Shared → Prop} (O : Swo ltv) (hl : ∃ o, s.heap.get? l = some o ∧ o.cls = .type "tuple" ∧ ∃ n, o.data = .seq vs.toArray n) (hz : vs.length ≤ sizeLine)
    (hS : 2 ≤ vs.length → ∀ (h₁ : Heap) (a : Addr), h₁.get? a = some (seqObj "list" vs.toArray 0) → (∀ b o, s.heap.get? b = some o → b ≠ a ∧ h₁.get? b = some o) → SortableO prog w A.in1.in1 { s with heap := h₁ } a vs ltv)
    (h : ∀ out : List Value, Srtd ltv out → Stb ltv out vs → Q (.ref (s.heap.objs.size + 1)) { s with heap := sortedAll s.heap vs out.toArray }) :
    wpAny (model prog w) A (call (.builtin "sorted") [.ref l]) Q E s := by
  refine Calls.call_function_entry kind_sorted plain_sorted entry_sorted (args_sorted1 _) ?_
  unfold Builtin.«sorted»
  refine wpAny_bind (m := checkCount "sorted" 1 1 _) (wpAny_pure ?_)
  refine wpAny_bind (collect_tup hl ?_ hz)
  refine wpAny_bind (wpAny_newList ?_ hz)
  have hsz : ((s.heap.push (seqObj "list" #[] 0)).update s.heap.objs.size (Obj.mapSeq (· ++ vs.toArray))).objs.size = s.heap.objs.size + 1 := by
    rw [Heap.size_update, size_push']
  have hoL : (((s.heap.push (seqObj "list" #[] 0)).update s.heap.objs.size (Obj.mapSeq (· ++ vs.toArray))).push (seqObj "list" vs.toArray 0)).get? (s.heap.objs.size + 1) = some (seqObj "list" vs.toArray 0) := by
    rw [← hsz]; exact Heap.get?_push_size _ rfl
  have keep : ∀ b o, s.heap.get? b = some o → b ≠ s.heap.objs.size + 1 ∧ (((s.heap.push (seqObj "list" #[] 0)).update s.heap.objs.size (Obj.mapSeq (· ++ vs.toArray))).push (seqObj "list" vs.toArray 0)).get? b = some o := fun b o q => by
    have hlt : b < s.heap.objs.size := Heap.lt_size q
    refine ⟨Nat.ne_of_lt (Nat.lt_succ_of_lt hlt), Heap.get?_push_of_some _ ?_⟩
    rw [Heap.get?_update_ne _ _ _ _ (Nat.ne_of_lt hlt)]
    exact Heap.get?_push_of_some _ q
  show wpAny _ _ _ _ _ { s with heap := ((s.heap.push (seqObj "list" #[] 0)).update s.heap.objs.size (Obj.mapSeq (· ++ vs.toArray))).push (seqObj "list" vs.toArray 0) }
  rw [hsz]
  refine wpAny_bind (wpAny_holding (wpAny_call_entry slot_list_sort ⟨_, hoL, rfl⟩ entry_list_sort (list_sort_ord O hoL hz (fun h2 => hS h2 _ _ hoL keep) fun out hs hb => ⟨_, rfl, ?_⟩) (args_list_sort _)))
  exact wpAny_pure ⟨_, rfl, h out hs hb⟩
end
/-- sorted(xs), xs a list or a tuple of pairs of ints -/
def rSortedAO (K : PySem.W.Frag) : List V → Hp → VK → Prop := fun vs H Q => ∃ (a : Addr) (xs : List V) (k : V → Int × Int), vs = [V.ref a] ∧ (SqL K H a xs ∨ SqT K H a xs) ∧ (∀ x ∈ xs, ∃ t, x = V.ref t ∧ H t = some (.tup [.int (k x).1, .int (k x).2])) ∧
  ∀ ys p, SrtO.Srtd (ltP k) ys → SrtO.Stb (ltP k) ys xs → H p = none → Q (.ref p) (upd H p (.lst ys))
/-- sorted(xs), xs a list or a tuple of ints -/
def rSortedAI (K : PySem.W.Frag) : List V → Hp → VK → Prop := fun vs H Q => ∃ (a : Addr) (ns : List Int), vs = [V.ref a] ∧ (SqL K H a (ns.map V.int) ∨ SqT K H a (ns.map V.int)) ∧
  ∀ (ns' : List Int) (p : Addr), ns'.Perm ns → ns'.Pairwise (· ≤ ·) → H p = none → Q (.ref p) (upd H p (.lst (ns'.map V.int)))
section
variable {X : Cx}
theorem cr_sortedAO : CallR X (.builtin "sorted") (rSortedAO X.K) := by
  intro pins s σ H vs us Q I r h
  obtain ⟨a, xs, k, rfl, hs, hx, q⟩ := h
  rcases hs with hs | hs
  · exact cr_sortedPO pins s σ H _ us Q I r ⟨a, xs, k, rfl, hs, hx, q⟩
  obtain ⟨its, rv, hl, hz⟩ := I.tuple hs
  obtain ⟨u, rfl, ru⟩ := vals1 r
  obtain rfl : u = Value.ref a := ru
  obtain ⟨e1, e2⟩ := refs_back rv fun x m => by
    obtain ⟨t, e, _⟩ := hx x m
    exact ⟨t, e⟩
  have hp : ∀ v ∈ its, Srt.IsPair s.heap v (k (backV v)).1 (k (backV v)).2 := fun v hv => by
    obtain ⟨t, rfl⟩ := e2 v hv
    have hm : V.ref t ∈ xs := by rw [e1]; exact List.mem_map.mpr ⟨_, hv, rfl⟩
    obtain ⟨t', e, ht⟩ := hx _ hm
    cases e
    obtain ⟨_, its2, r2, o, ho, hc, n, hd⟩ := I.hok _ _ ht
    obtain ⟨u1, u2, rfl, ri, rj⟩ := vals2 r2
    obtain ⟨t1, rfl⟩ := ri
    obtain ⟨t2, rfl⟩ := rj
    exact ⟨t, o, t1, t2, n, rfl, ho, hc, hd⟩
  refine sorted_tup (SrtO.swo_lex fun u => k (backV u)) hl (by rw [← rv.length]; exact hz) (fun h2 h₁ a' ha kk => ?_) fun out h1 h2 => ?_
  · refine SrtO.pairs_sortableO (s := { s with heap := h₁ }) (by omega) (fun v hm => (hp v hm).keeps fun b o e _ => (kk b o e).2) fun o e => ?_
    have e' : some o = some (seqObj "list" its.toArray 0) := e.symm.trans ha
    cases e'
    intro c
    exact absurd (Value.type.inj c) (by decide)
  · have h3 : ∀ u ∈ out, ∃ a, u = Value.ref a := fun u hu => e2 u (h2.perm.mem_iff.mp hu)
    obtain ⟨n, hn⟩ := sortedAll_at s.heap its out.toArray
    have hb : SrtO.Stb (ltP k) (out.map backV) xs := by
      rw [e1]
      exact SrtO.Stb.map (ltP_swo k) backV h2
    refine ⟨.ref _, upd H (s.heap.objs.size + 1) (.lst (out.map backV)), I.laid (t' := s.toks) (fun _ _ => sortedAll_old) (Nat.le_succ _) ⟨?_, out, n, vals_back h3, hn⟩, rfl, q _ _ (SrtO.srtd_map h1) hb (I.hok.fresh (Nat.le_succ _))⟩
    rw [hb.len]
    exact hz
theorem cr_sortedAI : CallR X (.builtin "sorted") (rSortedAI X.K) := by
  intro pins s σ H vs us Q I r h
  obtain ⟨a, ns, rfl, hs, q⟩ := h
  rcases hs with hs | hs
  · exact cr_sortedI pins s σ H _ us Q I r ⟨a, ns, rfl, hs, q⟩
  obtain ⟨its, rv, hl, hz⟩ := I.tuple hs
  rw [Vals.ref1 r]
  have hi := rv.ints
  refine sorted_tup SrtO.swo_int hl (by rw [← rv.length]; exact hz) (fun h2 h₁ a' _ _ => SrtO.ints_sortable hi h2) fun out h1 h2 => ?_
  obtain ⟨k1, k2, k3⟩ := SrtO.ints_out hi h1 h2
  obtain ⟨ep, he'⟩ := PyProof.Rows.sortedAll_at s.heap its out.toArray
  have hlen : ((out.map SrtO.iv).map V.int).length ≤ sizeLine := by
    rw [List.length_map, k2.length_eq]
    rw [List.length_map] at hz
    exact hz
  exact ⟨.ref _, upd H (s.heap.objs.size + 1) (.lst ((out.map SrtO.iv).map V.int)), I.laid (t' := s.toks) (fun _ _ => PyProof.Rows.sortedAll_old) (Nat.le_succ _) ⟨hlen, out, ep, vals_of_ints k1, he'⟩, rfl, q _ _ k2 k3 (I.hok.fresh (Nat.le_succ _))⟩
/-- both in one -/
theorem cr_sortedA : CallR X (.builtin "sorted") (fun vs H Q => rSortedAI X.K vs H Q ∨ rSortedAO X.K vs H Q) := by
  intro pins s σ H vs us Q I r h
  rcases h with h | h
  · exact cr_sortedAI pins s σ H vs us Q I r h
  · exact cr_sortedAO pins s σ H vs us Q I r h
end
/-! ### as values -/
def pD (p : Int × Int) : D := .tup [.int p.1, .int p.2]
def D.prs : List D → Option (List (Int × Int))
  | [] => some []
  | .tup [.int a, .int b] :: r => (D.prs r).map ((a, b) :: ·)
  | _ => none
theorem prs_map : ∀ ps : List (Int × Int), D.prs (ps.map pD) = some ps
  | [] => rfl
  | p :: ps => by
    show (D.prs (ps.map pD)).map _ = _
    rw [prs_map ps]; rfl
theorem ints_prs : ∀ {ps : List (Int × Int)}, ps ≠ [] → D.ints (ps.map pD) = none
  | [], h => absurd rfl h
  | _ :: _, _ => rfl
def lexLe (p q : Int × Int) : Prop := p.1 < q.1 ∨ (p.1 = q.1 ∧ p.2 ≤ q.2)
def sortedK (ds : List D) (k : Rv → Prop) : Prop :=
  match D.ints ds with
  | some ns => ∀ ms : List Int, ms.Perm ns → ms.Pairwise (· ≤ ·) → k (.new (ms.map .int))
  | none => match D.prs ds with
    | some ps => ∀ qs : List (Int × Int), qs.Perm ps → qs.Pairwise lexLe → k (.new (qs.map pD))
    | none => False
def dSorted : D → (Rv → Prop) → Prop
  | .lst ds, k => sortedK ds k
  | .tup ds, k => sortedK ds k
  | _, _ => False
theorem sortedK_pairs (ps : List (Int × Int)) (k : Rv → Prop) (h : ∀ qs : List (Int × Int), qs.Perm ps → qs.Pairwise lexLe → k (.new (qs.map pD))) : sortedK (ps.map pD) k := by
  unfold sortedK
  by_cases e : ps = []
  · subst e
    intro ms hp _
    have : ms = [] := List.Perm.eq_nil hp
    subst this
    exact h [] (.refl _) .nil
  · rw [ints_prs e, prs_map]
    exact h
theorem ints_of_map : ∀ ns : List Int, D.ints (ns.map D.int) = some ns
  | [] => rfl
  | n :: ns => by
    show (D.ints (ns.map D.int)).map _ = _
    rw [ints_of_map ns]; rfl
theorem sortedK_ints (ns : List Int) (k : Rv → Prop) (h : ∀ ms : List Int, ms.Perm ns → ms.Pairwise (· ≤ ·) → k (.new (ms.map .int))) : sortedK (ns.map D.int) k := by
  unfold sortedK
  rw [ints_of_map]
  exact h
theorem sortedK_mono {ds : List D} {k k' : Rv → Prop} (hk : ∀ r, k r → k' r) (h : sortedK ds k) : sortedK ds k' := by
  unfold sortedK at h ⊢
  split at h
  · exact fun ms a b => hk _ (h ms a b)
  · split at h
    · exact fun ms a b => hk _ (h ms a b)
    · exact h.elim
/-- the pair that stands at an address -/
def pairAt (H : Hp) : V → Int × Int
  | .ref t => match H t with
    | some (.tup [.int a, .int b]) => (a, b)
    | _ => (0, 0)
  | _ => (0, 0)
theorem prs_is {K : PySem.W.Frag} {c : Cn K} {B H : Hp} (bh : Same B H) : ∀ {vs : List V} {ds : List D} {ps : List (Int × Int)}, IsL c B vs ds → D.prs ds = some ps →
    ds = ps.map pD ∧ vs.map (pairAt H) = ps ∧ ∀ x ∈ vs, Is c B x (pD (pairAt H x)) ∧ ∃ t, x = V.ref t ∧ H t = some (.tup [.int (pairAt H x).1, .int (pairAt H x).2])
  | _, _, ps, .nil, e => by
    simp only [D.prs, Option.some.injEq] at e
    subst e
    exact ⟨rfl, rfl, fun x hx => absurd hx (by simp)⟩
  | _, d :: ds, ps, .cons r t, e => by
    unfold D.prs at e
    split at e
    · next h => cases h
    · next a b r' e' =>
      cases e'
      obtain ⟨qs, e1, rfl⟩ := Option.map_eq_some_iff.mp e
      obtain ⟨i1, i2, i3⟩ := prs_is bh t e1
      cases r with
      | tup h l =>
        cases l with
        | cons ra l => cases l with
          | cons rb l =>
            cases l
            cases ra
            cases rb
            have e3 : pairAt H (V.ref ‹_›) = (a, b) := by simp only [pairAt, bh _ _ h]
            refine ⟨by rw [i1]; rfl, by rw [List.map_cons, e3, i2], fun x hx => ?_⟩
            rcases List.mem_cons.mp hx with rfl | hx
            · rw [e3]
              exact ⟨.tup h (.cons (.int a) (.cons (.int b) .nil)), _, rfl, bh _ _ h⟩
            · exact i3 x hx
    · cases e
theorem IsL.of_all {K : PySem.W.Frag} {c : Cn K} {B : Hp} {f : V → D} : ∀ {vs : List V}, (∀ x ∈ vs, Is c B x (f x)) → IsL c B vs (vs.map f)
  | [], _ => .nil
  | v :: vs, h => .cons (h v List.mem_cons_self) (IsL.of_all fun x hx => h x (List.mem_cons_of_mem _ hx))
section
variable {X : Cx} {c : Cn X.K} {W : WX} {e : Expr} {es : List Expr} {pos p : Pos} {l : DL} {j : Nat}
theorem sorted_core {B H : Hp} {a : Addr} {vs : List V} {ds : List D} {Q : VK} {k : Rv → Prop} (p : Pre c B H) (r : IsL c B vs ds) (sq : SqL X.K H a vs ∨ SqT X.K H a vs) (q : sortedK ds k)
    (K : ∀ z B' H' u, Step c B H B' H' → RvOk c H B' H' z u → k u → Q z H') : rSortedAI X.K [V.ref a] H Q ∨ rSortedAO X.K [V.ref a] H Q := by
  unfold sortedK at q
  split at q
  · next ns h1 =>
    have e := ints_vals r h1
    subst e
    refine .inl ⟨a, ns, rfl, sq, fun ms t hp ho hn => ?_⟩
    refine K _ B _ _ (Step.lay p hn _) (rv_new (ds := ms.map .int) upd_same ?_ (p.bnone hn) hn) (q ms hp ho)
    have := IsL.of_all (c := c) (B := B) (vs := ms.map V.int) (f := fun v => match v with | .int i => D.int i | _ => .non) fun x hx => by
      obtain ⟨i, _, rfl⟩ := List.mem_map.mp hx
      exact .int i
    rw [List.map_map] at this
    exact this
  · split at q
    · next ps h1 =>
      obtain ⟨_, e2, e3⟩ := prs_is p.bh r h1
      refine .inr ⟨a, vs, pairAt H, rfl, sq, fun x hx => (e3 x hx).2, fun ys t hs hb hn => ?_⟩
      refine K _ B _ _ (Step.lay p hn _) (rv_new (ds := (ys.map (pairAt H)).map pD) upd_same ?_ (p.bnone hn) hn) (q _ ?_ ?_)
      · rw [List.map_map]
        exact IsL.of_all fun x hx => (e3 x (hb.perm.mem_iff.mp hx)).1
      · rw [← e2]; exact hb.perm.map _
      · refine List.pairwise_map.mpr (hs.imp fun {x y} h => ?_)
        have := SrtO.lexB_no.mp h
        unfold lexLe
        omega
    · exact q.elim
theorem cd_sorted : CallD c (fun vs H Q => rSortedAI X.K vs H Q ∨ rSortedAO X.K vs H Q) (on1 dSorted) := by
  refine calld1 (fun d k k' hk q => ?_) fun B H v d Q k p i q K => ?_
  · cases d <;> simp only [dSorted] at q ⊢ <;> first | exact sortedK_mono hk q | exact q
  · cases i with
    | lst h r => exact sorted_core p r (.inl (SqL.of (p.bh _ _ h))) q K
    | tup h r => exact sorted_core p r (.inr (SqT.of (p.bh _ _ h))) q K
    | _ => exact q.elim
theorem er_sorted (m : Fm X W j) (hm : X.mg "sorted" = none) (ha : EA X c W (e :: es) l) (hg : Gl X "sorted" := by rfl) (he : starEach (e :: es) X.env = (false, eval e X.env) :: starEach es X.env := by rfl) (hpl : (backTo pos (starEach es X.env)).any (·.1) = false := by rfl) : ER X c W (.Call (.Name "sorted" p) (e :: es) [] pos) (rCall l (on1 dSorted)) :=
  er_callB cr_sortedA cd_sorted hg hm (by decide +kernel) ha (by decide) (by decide) he hpl
end
end Dv
namespace Dv
open L2
theorem ss_fzAsgN {X : Cx} {c : Cn X.K} {W : WX} {e : PySem.Expr} {pos : PySem.Pos} {f : DV} {Z S : List Nat} {t : PySem.Expr} {g : DG} (he : EV X c W e f) (hg : GT X c S t g) (ok : AsgOk X t e pos := by exact ⟨rfl, rfl, rfl⟩) : SS X c W (.Assign [t] e pos) (sFz Z (sAsgN f g)) := ss_fz Z (ss_asgN he hg ok)
end Dv

set_option Elab.async false
set_option linter.all false
set_option maxRecDepth 100000
set_option maxHeartbeats 4000000
/-! sum(t), t a list or a tuple of ints -/
namespace Dv
open PySem PySem.Spec PyProof.Rows L2
theorem sum_rawT {prog : Program} {w : World} {A : Around} {E : Value → Shared → Prop} {s : Shared} {l : Addr} {its : List Value} {ns : List Int} {Q : Value → Shared → Prop} (hh : A.handled = none) (hl : IsTup s.heap l its.toArray) (hi : IntsAre its ns)
    (h : ∀ h' tk t', (∀ b o, s.heap.get? b = some o → h'.get? b = some o) → Q (.int ns.sum t') { s with heap := h', toks := tk }) : wpAny (model prog w) A (call (.builtin "sum") [.ref l]) Q E s := by
  obtain ⟨xs, e⟩ := hi.allInts.items
  have hn : numsOf (intItems xs).toList = ns := by rw [← e]; exact hi.numsOf
  rw [nums_intItems] at hn
  rw [e] at hl
  refine PySem.W.ktm_sumG hh hl fun h' tk t' hk => ?_
  have := h h' tk t' hk
  rw [preSum_eq, List.take_of_length_le (by simp), hn]; exact this
def rSumA (K : PySem.W.Frag) : List V → Hp → VK → Prop := fun vs H Q => ∃ (a : Addr) (ns : List Int), vs = [V.ref a] ∧ (SqL K H a (ns.map V.int) ∨ SqT K H a (ns.map V.int)) ∧ Q (.int ns.sum) H
def dSumA : D → (Rv → Prop) → Prop
  | .lst ds, k => ∃ ns, D.ints ds = some ns ∧ k (.val (.int ns.sum))
  | .tup ds, k => ∃ ns, D.ints ds = some ns ∧ k (.val (.int ns.sum))
  | _, _ => False
section
variable {X : Cx} {c : Cn X.K} {W : WX} {e : Expr} {es : List Expr} {pos p : Pos} {l : DL} {j : Nat}
theorem cr_sumA (hc : X.calm = true) : CallR X (.builtin "sum") (rSumA X.K) := by
  intro pins s σ H vs us Q I r h
  obtain ⟨a, ns, rfl, hs, q⟩ := h
  rcases hs with hs | hs
  · exact cr_sum hc pins s σ H _ us Q I r ⟨a, ns, rfl, hs, q⟩
  obtain ⟨its, rv, hl, _⟩ := I.tuple hs
  rw [Vals.ref1 r]
  exact sum_rawT (I.ok.hd hc) hl rv.ints fun h' tk t' hk => ⟨.int _, H, I.kept hk, ⟨_, rfl⟩, q⟩
theorem cd_sumA : CallD c (rSumA X.K) (on1 dSumA) := by
  refine calld1 (fun d k k' hk q => ?_) fun B H v d Q k p i q K => ?_
  · cases d <;> simp only [dSumA] at q ⊢ <;> first | exact (let ⟨ns, h1, h2⟩ := q; ⟨ns, h1, hk _ h2⟩) | exact q
  · cases i with
    | lst h r =>
      obtain ⟨ns, h1, h2⟩ := q
      have e := ints_vals r h1
      subst e
      exact ⟨_, ns, rfl, .inl (SqL.of (p.bh _ _ h)), K _ B H _ (Step.refl p) (rv_val (.int _)) h2⟩
    | tup h r =>
      obtain ⟨ns, h1, h2⟩ := q
      have e := ints_vals r h1
      subst e
      exact ⟨_, ns, rfl, .inr (SqT.of (p.bh _ _ h)), K _ B H _ (Step.refl p) (rv_val (.int _)) h2⟩
    | _ => exact q.elim
theorem er_sumA (m : Fm X W j) (hm : X.mg "sum" = none) (ha : EA X c W (e :: es) l) (hg : Gl X "sum" := by rfl) (he : starEach (e :: es) X.env = (false, eval e X.env) :: starEach es X.env := by rfl) (hpl : (backTo pos (starEach es X.env)).any (·.1) = false := by rfl) : ER X c W (.Call (.Name "sum" p) (e :: es) [] pos) (rCall l (on1 dSumA)) :=
  er_callB (cr_sumA m.calm) cd_sumA hg hm (by decide +kernel) ha (by decide) (by decide) he hpl
end
end Dv

set_option Elab.async false
set_option linter.all false
set_option maxRecDepth 100000
set_option maxHeartbeats 4000000
/-! xs[::-1] -/
namespace Dv
open PySem PySem.Spec PyProof.Rows L2
section
variable {prog : Program} {w : World} {A : Around} {E : Value → Shared → Prop} {s : Shared}
theorem sliceApplied_rev {sl : Addr} {vk : Value} {n : Nat} {Q : Int × Int × Nat → Shared → Prop} (hs : s.heap.IsSliceOf sl .none .none vk) (pk : IsPart vk (some (-1)))
    (h : Q ((n : Int) - 1, -1, n) s) : wpAny (model prog w) A (Builtin.Slice.sliceApplied (.ref sl) (pure (n : Int))) Q E s := by
  obtain ⟨os, hos, hcs, hds⟩ := id hs
  unfold Builtin.Slice.sliceApplied Builtin.Slice.sliceFields
  refine wpAny_bind (wpAny_bind (wpAny_field hos hds (x := .none) rfl (wpAny_bind (wpAny_field hos hds (x := .none) rfl (wpAny_bind (wpAny_field hos hds (x := vk) rfl (wpAny_pure ?_)))))))
  refine wpAny_bind (HT.slicePart_ pk ?_)
  show wpAny _ _ (if ((-1 : Int) == 0) = true then _ else _) _ _ s
  rw [if_neg (by decide)]
  refine wpAny_bind (slicePart_none (wpAny_bind (slicePart_none (wpAny_bind (wpAny_pure ?_)))))
  show wpAny _ _ (match Builtin.Slice.sliceAdjust none none (-1) (n : Int) with | (lo, hi) => pure (lo, (-1 : Int), Builtin.Slice.slicePlaces lo hi (-1))) _ _ s
  have e1 : Builtin.Slice.sliceAdjust none none (-1) (n : Int) = ((n : Int) - 1, -1) := rfl
  rw [e1]
  show wpAny _ _ (pure ((n : Int) - 1, (-1 : Int), Builtin.Slice.slicePlaces ((n : Int) - 1) (-1) (-1))) _ _ s
  have e2 : Builtin.Slice.slicePlaces ((n : Int) - 1) (-1) (-1) = n := by
    unfold Builtin.Slice.slicePlaces
    have h1 : ¬ ((-1 : Int) > 0) := by decide
    simp only [h1, if_false]
    by_cases h : (n : Int) - 1 > -1
    · rw [if_pos h, show (- -1 : Int) = 1 by decide, Int.ediv_one]; omega
    · rw [if_neg h]; omega
  rw [e2]
  exact wpAny_pure h
theorem pick_rev (xs : Array Value) : ((List.range xs.size).filterMap fun (m : Nat) => xs[((xs.size : Int) - 1 + (m : Int) * (-1)).toNat]?).toArray = xs.toList.reverse.toArray := by
  have e : (List.range xs.size).filterMap (fun (m : Nat) => xs[((xs.size : Int) - 1 + (m : Int) * (-1)).toNat]?) = ((List.range xs.size).map fun k => xs.size - 1 - k).filterMap (xs[·]?) := by
    have e1 : (List.range xs.size).filterMap (fun (m : Nat) => xs[((xs.size : Int) - 1 + (m : Int) * (-1)).toNat]?) = ((List.range xs.size).map (fun (m : Nat) => xs[((xs.size : Int) - 1 + (m : Int) * (-1)).toNat]?)).filterMap id := by
      rw [List.filterMap_map]; rfl
    have e2 : ((List.range xs.size).map fun k => xs.size - 1 - k).filterMap (xs[·]?) = ((List.range xs.size).map (fun (m : Nat) => xs[xs.size - 1 - m]?)).filterMap id := by
      rw [List.filterMap_map, List.filterMap_map]; rfl
    rw [e1, e2]
    congr 1
    refine List.map_congr_left fun m hm => ?_
    have := List.mem_range.mp hm
    have e : ((xs.size : Int) - 1 + (m : Int) * (-1)).toNat = xs.size - 1 - m := by omega
    rw [e]
  rw [e, PySem.W.krv_range, List.filterMap_reverse, PySem.W.krv_all]
theorem getItem_tuple_rev {t sl : Addr} {items : Array Value} {vk : Value} {Q : Value → Shared → Prop} (ht : IsTup s.heap t items) (hs : s.heap.IsSliceOf sl .none .none vk) (pk : IsPart vk (some (-1)))
    (h : Q (.ref s.heap.objs.size) { s with heap := s.heap.push { cls := .type "tuple", data := .seq items.toList.reverse.toArray } })
    (hsz : items.size ≤ sizeLine) : wpAny (model prog w) A (getItem (.ref t) (.ref sl)) Q E s := by
  have htake : sizeOk (.seq items.toList.reverse.toArray) := by
    show items.toList.reverse.toArray.size ≤ sizeLine
    rw [List.size_toArray, List.length_reverse, Array.length_toList]
    exact hsz
  obtain ⟨os, hos, hcs, hds⟩ := id hs
  have hTs : s.TypeIs (.ref sl) "slice" := ⟨os, hos, hcs⟩
  unfold getItem
  try with_reducible refine wpAny_holding ?_
  first | refine wpAny_bind (wpAny_pure ?_) | skip
  refine wpAny_bind (wpAny_sequenceKey ht.typeIs (by decide) ?_)
  refine wpAny_bind (wpAny_callSpecial?_slot (name := Str.ofString "__getitem__") ht.typeIs PyProof.Rows.slot_tuple_getitem
    (wpAny_call_entry PyProof.Rows.slot_tuple_getitem ht.typeIs entry_tuple_getitem ?_ (args_tuple_getitem _ _)))
  show wpAny _ _ (Builtin.Tuple.tupleItemsOf (.ref t) >>= _) _ _ s
  refine wpAny_bind (tupleItemsOf_ ht ?_)
  refine wpAny_bind (wpAny_typeOf hTs ?_)
  rw [if_pos (by decide)]
  refine wpAny_bind (sliceApplied_rev hs pk ?_)
  show wpAny _ _ (if (((items.size : Int) - 1) == 0 && (-1 : Int) == 1 && items.size == items.size) = true then _ else _) _ _ s
  rw [if_neg (by intro q; rw [Bool.and_eq_true, Bool.and_eq_true] at q; exact absurd q.1.2 (by decide)), pick_rev]
  first
    | exact wpAny_bind (m := Builtin.Tuple.tupleExact _) (wpAny_newObj_type (wpAny_pure ⟨_, rfl, wpAny_pure h⟩) htake)
    | exact wpAny_bind (m := Builtin.Tuple.tupleExact _) (wpAny_newObj_type (wpAny_bind (wpAny_pure (wpAny_pure ⟨_, rfl, wpAny_pure h⟩))) htake)
    | exact wpAny_bind (wpAny_bind (m := Builtin.Tuple.tupleExact _) (wpAny_newObj_type (wpAny_pure (wpAny_pure ⟨_, rfl, wpAny_pure h⟩)) htake))
    | exact wpAny_bind (wpAny_bind (m := Builtin.Tuple.tupleExact _) (wpAny_newObj_type (wpAny_pure ⟨_, rfl, wpAny_pure h⟩) htake))
end
section
variable {X : Cx} {c : Cn X.K} {W : WX} {a : Expr} {te : TE} {th : TO} {pos p2 : Pos} {f : DV}
theorem vals_reverse {xs : List V} {its : List Value} (r : Vals xs its) : Vals xs.reverse its.reverse := by
  induction r with
  | nil => exact .nil
  | cons r _ ih =>
    rw [List.reverse_cons, List.reverse_cons]
    exact ih.append (.cons r .nil)
def rRevS (K : PySem.W.Frag) : V → Hp → VK → Prop := fun x H Q => ∃ (a : Addr) (xs : List V), x = .ref a ∧ ((SqL K H a xs ∧ ∀ p, H p = none → Q (.ref p) (upd H p (.lst xs.reverse))) ∨ (SqT K H a xs ∧ ∀ p, H p = none → Q (.ref p) (upd H p (.tup xs.reverse))))
theorem pe_revS {e : Expr} {hi : Option Expr} (he : PE X e te) (hu : PO X hi th) (hsub : ∀ v r : Addr, subscripted (.Slice none none hi p2) false (.ref v) (.ref r) = operate [.ref v, .ref r] (getItem (.ref v) (.ref r))) : PE X (.Subscript e (.Slice none none hi p2) pos) (fun σ H Q => te σ H fun x H1 => th σ H1 fun u H2 => u = some (-1) ∧ rRevS X.K x H2 Q) := by
  refine ⟨fun pins s σ H Q I h => ?_⟩
  refine Subscript_ (thn (he.run pins s σ H _ I h) fun v s1 ⟨x, H1, I1, r1, q1⟩ => ?_)
  refine wpAny_Slice ?_
  rw [evalPart_none]
  refine wpAny_pure ?_
  refine wpAny_pure ?_
  refine thn (hu.run pins s1 σ H1 _ I1 q1) fun vk s3 ⟨u, H3, I3, pk, e, q3⟩ => ?_
  subst e
  have I4 : Inv X pins σ H3 { s3 with heap := s3.heap.push { cls := .type "slice", data := .fields #[.none, .none, vk] } } := I3.kept (t' := s3.toks) fun b ob q => Heap.get?_push_of_some _ q
  have hs : ({ s3 with heap := s3.heap.push { cls := .type "slice", data := .fields #[.none, .none, vk] } } : Shared).heap.IsSliceOf s3.heap.objs.size .none .none vk := Heap.IsSliceOf.new ..
  show wpAny (model X.prog X.w) X.A (subscriptTail e (.Slice none none hi p2) v (.ref s3.heap.objs.size)) (EP X pins σ Q) X.xe { s3 with heap := s3.heap.push { cls := .type "slice", data := .fields #[.none, .none, vk] } }
  obtain ⟨ad, xs, rfl, q3⟩ := q3
  cases r1
  rcases q3 with ⟨hx, q⟩ | ⟨hx, q⟩
  · obtain ⟨its, r, ht, hz⟩ := I4.list hx
    have hlen := r.length
    refine tail_any (ops := [.ref ad, .ref s3.heap.objs.size]) ht.isList.typeIs slot_list_getitem.lookup (wpAny_getItem_list_slice ht.isList hs .none .none pk (by decide) ?_ (by rw [List.size_toArray] <;> omega)) (hsub _ _)
    rw [PySem.W.krv_pick]
    exact ⟨.ref _, _, I4.laid (t' := s3.toks) (o := .lst xs.reverse) (fun b ob q => Heap.get?_push_of_some _ q) (Nat.le_refl _) ⟨by rw [List.length_reverse]; exact hz, _, 0, vals_reverse r, Heap.get?_push_size _ rfl⟩, rfl, q _ (I4.hok.fresh (Nat.le_refl _))⟩
  · obtain ⟨its, r, ht, hz⟩ := I4.tuple hx
    have hlen := r.length
    refine tail_any (ops := [.ref ad, .ref s3.heap.objs.size]) ht.typeIs PyProof.Rows.slot_tuple_getitem.lookup (getItem_tuple_rev ht hs pk ?_ (by rw [List.size_toArray] <;> omega)) (hsub _ _)
    exact ⟨.ref _, _, I4.laid (t' := s3.toks) (o := .tup xs.reverse) (fun b ob q => Heap.get?_push_of_some _ q) (Nat.le_refl _) ⟨by rw [List.length_reverse]; exact hz, _, vals_reverse r, IsTup.new _ _⟩, rfl, q _ (I4.hok.fresh (Nat.le_refl _))⟩
def dRevS (d : D) (k : Rv → Prop) : Prop :=
  match d with
  | .lst ds => k (.new ds.reverse)
  | .ro ds => k (.new ds.reverse)
  | .tup ds => k (.val (.tup ds.reverse))
  | _ => False
def rRev (f : DV) (h : DO) : DR := fun ρ k E => f ρ (fun d => h ρ (fun o => o = some (-1) ∧ dRevS d k) E) E
theorem er_rev {h : DO} {hi : Option Expr} (ha : EV X c W a f) (hh : EO X c W hi h) (hsub : ∀ v r : Addr, subscripted (.Slice none none hi p2) false (.ref v) (.ref r) = operate [.ref v, .ref r] (getItem (.ref v) (.ref r)) := by intros; with_unfolding_all rfl) : ER X c W (.Subscript a (.Slice none none hi p2) pos) (rRev f h) := by
  have dm : ∀ (d : D) (k k' : Rv → Prop), (∀ z, k z → k' z) → dRevS d k → dRevS d k' := fun d k k' hk q => by
    unfold dRevS at q ⊢
    split at q <;> first | exact hk _ q | exact q
  refine ⟨fun ρ k k' E E' hk hE q => ha.mn ρ _ _ E E' (fun d q => hh.mn ρ _ _ E E' (fun u q => ⟨q.1, dm d k k' hk q.2⟩) hE q) hE q, wkE (pe_revS ha.pe hh.po hsub) ?_⟩
  rintro σ H Q ⟨B, ρ, p, rp, q⟩
  refine ⟨B, ρ, p, rp, ha.mn _ _ _ _ _ (fun d hd v B1 H1 s1 i1 => ?_) (fun _ z => z) q⟩
  refine ⟨B1, ρ, s1.pre, rp.mono s1.b, hh.mn _ _ _ _ _ (fun u hu B3 H3 s3 => ?_) (fun x z => z.step s1) hd⟩
  have i3 := i1.mono s3.b
  have st := s1.trans s3
  refine ⟨hu.1, ?_⟩
  have hu := hu.2
  unfold dRevS at hu
  split at hu
  · cases i3 with
    | lst h r => exact ⟨_, _, rfl, .inl ⟨SqL.of (s3.bh _ _ h), fun q' hq => hu _ _ _ (st.trans (Step.lay s3.pre hq _)) (RvOk.up st (rv_new upd_same r.reverse (s3.pre.bnone hq) hq))⟩⟩
  · cases i3 with
    | ro h r => exact ⟨_, _, rfl, .inl ⟨Same.l s3.bh h, fun q' hq => hu _ _ _ (st.trans (Step.lay s3.pre hq _)) (RvOk.up st (rv_new upd_same r.reverse (s3.pre.bnone hq) hq))⟩⟩
  · cases i3 with
    | tup h r => exact ⟨_, _, rfl, .inr ⟨SqT.of (s3.bh _ _ h), fun q' hq => hu _ _ _ (st.trans (Step.new s3.pre hq _)) (rv_val (.tup upd_same (r.reverse.mono (Same.new (s3.pre.bnone hq)))))⟩⟩
  · exact hu.elim
end
end Dv

set_option Elab.async false
set_option linter.all false
set_option maxRecDepth 100000
set_option maxHeartbeats 4000000
/-! chains of three comparisons; in, not in (flat items) -/
namespace Dv
open PySem PySem.Spec PyProof.Rows L2
def tChain3 (r r' r'' : R2) (ta tb tc td : TE) : TE := fun σ H Q => ta σ H fun x H1 => tb σ H1 fun y H2 => r x y H2 fun z H3 => ∃ k, z = .bl k ∧
  (if k = true then tc σ H3 fun w' H4 => r' y w' H4 fun z' H5 => ∃ k', z' = .bl k' ∧ (if k' = true then td σ H5 fun v' H6 => r'' w' v' H6 Q else Q (.bl false) H5) else Q (.bl false) H3)
section
variable {X : Cx} {c : Cn X.K} {W : WX} {a b e x y : Expr} {ta tb tc td : TE} {pos : Pos} {f g h i : DV}
theorem pe_chain3 {op op' op'' : CmpOp} {r r' r'' : R2} (ho : OpR X (compareOp op) r) (ho' : OpR X (compareOp op') r') (ho'' : OpR X (compareOp op'') r'') (ha : PE X a ta) (hb : PE X b tb) (hc : PE X x tc) (hd : PE X y td)
    (hm : lastMarks [op, op', op''] [b, x, y] = false := by with_unfolding_all rfl) : PE X (.Compare a [op, op', op''] [b, x, y] pos) (tChain3 r r' r'' ta tb tc td) := by
  refine ⟨fun pins s σ H Q I h => ?_⟩
  refine Compare_chain (thn (ha.run pins s σ H _ I h) fun v s1 ⟨x, H1, I1, r1, q1⟩ => chain_link (thn (hb.run pins s1 σ H1 _ I1 q1) fun u s2 ⟨y, H2, I2, r2, q2⟩ =>
    thn (ho pins s2 σ H2 x y v u _ I2 r1 r2 q2) fun d s3 ⟨z, H3, I3, r3, k, e, q3⟩ => ?_)) hm
  subst e
  cases r3
  refine wpAny_truthy_bool ?_
  cases k with
  | false => exact ite_ff ⟨.bl false, H3, I3, rfl, q3⟩
  | true =>
    refine ite_tt (chain_link (thn (hc.run pins s3 σ H3 _ I3 q3) fun w' s4 ⟨z', H4, I4, r4, q4⟩ => thn (ho' pins s4 σ H4 y z' u w' _ I4 r2 r4 q4) fun d' s5 ⟨z2, H5, I5, r5, k2, e2, q5⟩ => ?_))
    subst e2
    cases r5
    refine wpAny_truthy_bool ?_
    cases k2 with
    | false => exact ite_ff ⟨.bl false, H5, I5, rfl, q5⟩
    | true => exact ite_tt (chain_last (thn (hd.run pins s5 σ H5 _ I5 q5) fun w2 s6 ⟨z3, H6, I6, r6, q6⟩ => ho'' pins s6 σ H6 z' z3 w' w2 Q I6 r4 r6 q6))
theorem pt_chain3 {op op' op'' : CmpOp} {r r' r'' : R2} (ho : OpR X (compareOp op) r) (ho' : OpR X (compareOp op') r') (ho'' : OpR X (compareOp op'') r'') (ha : PE X a ta) (hb : PE X b tb) (hc : PE X x tc) (hd : PE X y td)
    (hm : lastMarks [op, op', op''] [b, x, y] = false := by with_unfolding_all rfl) : PT X (.Compare a [op, op', op''] [b, x, y] pos) (tTest (tChain3 r r' r'' ta tb tc td)) := by
  refine ⟨fun pins s σ H Q I h => ?_⟩
  refine isTrue_chain (thn (ha.run pins s σ H _ I h) fun v s1 ⟨x, H1, I1, r1, q1⟩ => test_link (thn (hb.run pins s1 σ H1 _ I1 q1) fun u s2 ⟨y, H2, I2, r2, q2⟩ =>
    thn (ho pins s2 σ H2 x y v u _ I2 r1 r2 q2) fun d s3 ⟨z, H3, I3, r3, k, e, q3⟩ => ?_)) hm
  subst e
  cases r3
  refine wpAny_truthy_bool ?_
  cases k with
  | false =>
    obtain ⟨k', e', q'⟩ := q3
    cases e'
    exact ite_ff ⟨H3, I3, q'⟩
  | true =>
    refine ite_tt (test_link (thn (hc.run pins s3 σ H3 _ I3 q3) fun w' s4 ⟨z', H4, I4, r4, q4⟩ => thn (ho' pins s4 σ H4 y z' u w' _ I4 r2 r4 q4) fun d' s5 ⟨z2, H5, I5, r5, k2, e2, q5⟩ => ?_))
    subst e2
    cases r5
    refine wpAny_truthy_bool ?_
    cases k2 with
    | false =>
      obtain ⟨k', e', q'⟩ := q5
      cases e'
      exact ite_ff ⟨H5, I5, q'⟩
    | true =>
      refine ite_tt (test_last (thn (hd.run pins s5 σ H5 _ I5 q5) fun w2 s6 ⟨z3, H6, I6, r6, q6⟩ => thn (ho'' pins s6 σ H6 z' z3 w' w2 _ I6 r4 r6 q6) fun d2 s7 ⟨z4, H7, I7, r7, k3, e3, q7⟩ => ?_))
      subst e3
      cases r7
      exact wpAny_truthy_bool ⟨H7, I7, q7⟩
abbrev OpD := D → D → (Bool → Prop) → Prop
def cChain3 (f g h i : DV) (o1 o2 o3 : OpD) : DB := fun ρ k E => f ρ (fun d => g ρ (fun e => o1 d e (fun b => (b = false → k false) ∧ (b = true → h ρ (fun u => o2 e u (fun b' => (b' = false → k false) ∧ (b' = true → i ρ (fun v => o3 u v k) E))) E))) E) E
def MnO (o : OpD) : Prop := ∀ d e (k k' : Bool → Prop), (∀ z, k z → k' z) → o d e k → o d e k'
theorem chain3_mn {o1 o2 o3 : OpD} (ha : EV X c W a f) (hb : EV X c W b g) (hc : EV X c W x h) (hd : EV X c W y i) (h1 : MnO o1) (h2 : MnO o2) (h3 : MnO o3) : Mn (cChain3 f g h i o1 o2 o3) :=
  fun ρ k k' E E' hk hE q => ha.mn ρ _ _ E E' (fun d q => hb.mn ρ _ _ E E' (fun e q => h1 d e _ _ (fun b ⟨p1, p2⟩ => ⟨fun z => hk _ (p1 z), fun z => hc.mn ρ _ _ E E' (fun u q => h2 e u _ _ (fun b' ⟨p3, p4⟩ => ⟨fun z => hk _ (p3 z), fun z => hd.mn ρ _ _ E E' (fun v q => h3 u v k k' hk q) hE (p4 z)⟩) q) hE (p2 z)⟩) q) hE q) hE q
theorem ev_chain3 {op op' op'' : CmpOp} {r r' r'' : R2} {o1 o2 o3 : OpD} (h1 : OpC c r o1) (h2 : OpC c r' o2) (h3 : OpC c r'' o3) (ha : EV X c W a f) (hb : EV X c W b g) (hc : EV X c W x h) (hd : EV X c W y i)
    (pe : PE X (.Compare a [op, op', op''] [b, x, y] pos) (tChain3 r r' r'' (tV c W f) (tV c W g) (tV c W h) (tV c W i))) : EV X c W (.Compare a [op, op', op''] [b, x, y] pos) (bV (cChain3 f g h i o1 o2 o3)) := by
  refine ⟨bV_mn (chain3_mn ha hb hc hd h1.1 h2.1 h3.1), wkE pe ?_⟩
  rintro σ H Q ⟨B, ρ, p, rp, q⟩
  refine ⟨B, ρ, p, rp, ha.mn _ _ _ _ _ (fun d hd' x B1 H1 s1 i1 => ?_) (fun _ z => z) q⟩
  refine ⟨B1, ρ, s1.pre, rp.mono s1.b, hb.mn _ _ _ _ _ (fun e he y B2 H2 s2 i2 => ?_) (fun x z => z.step s1) hd'⟩
  refine h1.2 B2 H2 x y d e _ _ s2.pre (i1.mono s2.b) i2 he fun b hk => ⟨b, rfl, ?_⟩
  cases b with
  | false =>
    rw [if_neg Bool.false_ne_true]
    exact hk.1 rfl _ B2 H2 (s1.trans s2) (.bl _)
  | true =>
    rw [if_pos rfl]
    refine ⟨B2, ρ, s2.pre, (rp.mono s1.b).mono s2.b, hc.mn _ _ _ _ _ (fun u hu z B3 H3 s3 i3 => ?_) (fun x z => z.step (s1.trans s2)) (hk.2 rfl)⟩
    refine h2.2 B3 H3 y z e u _ _ s3.pre (i2.mono s3.b) i3 hu fun b' hk' => ⟨b', rfl, ?_⟩
    cases b' with
    | false =>
      rw [if_neg Bool.false_ne_true]
      exact hk'.1 rfl _ B3 H3 (s1.trans (s2.trans s3)) (.bl _)
    | true =>
      rw [if_pos rfl]
      refine ⟨B3, ρ, s3.pre, ((rp.mono s1.b).mono s2.b).mono s3.b, hd.mn _ _ _ _ _ (fun v hv z2 B4 H4 s4 i4 => ?_) (fun x z => z.step (s1.trans (s2.trans s3))) (hk'.2 rfl)⟩
      exact h3.2 B4 H4 z z2 u v _ _ s4.pre (i3.mono s4.b) i4 hv fun b2 hk2 => hk2 _ B4 H4 (s1.trans (s2.trans (s3.trans s4))) (.bl _)
theorem eb_chain3 {op op' op'' : CmpOp} {r r' r'' : R2} {o1 o2 o3 : OpD} (h1 : OpC c r o1) (h2 : OpC c r' o2) (h3 : OpC c r'' o3) (ha : EV X c W a f) (hb : EV X c W b g) (hc : EV X c W x h) (hd : EV X c W y i)
    (pt : PT X (.Compare a [op, op', op''] [b, x, y] pos) (tTest (tChain3 r r' r'' (tV c W f) (tV c W g) (tV c W h) (tV c W i)))) : EB X c W (.Compare a [op, op', op''] [b, x, y] pos) (cChain3 f g h i o1 o2 o3) := by
  refine ⟨chain3_mn ha hb hc hd h1.1 h2.1 h3.1, wkT pt ?_⟩
  rintro σ H Q ⟨B, ρ, p, rp, q⟩
  refine ⟨B, ρ, p, rp, ha.mn _ _ _ _ _ (fun d hd' x B1 H1 s1 i1 => ?_) (fun _ z => z) q⟩
  refine ⟨B1, ρ, s1.pre, rp.mono s1.b, hb.mn _ _ _ _ _ (fun e he y B2 H2 s2 i2 => ?_) (fun x z => z.step s1) hd'⟩
  refine h1.2 B2 H2 x y d e _ _ s2.pre (i1.mono s2.b) i2 he fun b hk => ⟨b, rfl, ?_⟩
  cases b with
  | false =>
    rw [if_neg Bool.false_ne_true]
    exact ⟨false, rfl, hk.1 rfl B2 H2 (s1.trans s2)⟩
  | true =>
    rw [if_pos rfl]
    refine ⟨B2, ρ, s2.pre, (rp.mono s1.b).mono s2.b, hc.mn _ _ _ _ _ (fun u hu z B3 H3 s3 i3 => ?_) (fun x z => z.step (s1.trans s2)) (hk.2 rfl)⟩
    refine h2.2 B3 H3 y z e u _ _ s3.pre (i2.mono s3.b) i3 hu fun b' hk' => ⟨b', rfl, ?_⟩
    cases b' with
    | false =>
      rw [if_neg Bool.false_ne_true]
      exact ⟨false, rfl, hk'.1 rfl B3 H3 (s1.trans (s2.trans s3))⟩
    | true =>
      rw [if_pos rfl]
      refine ⟨B3, ρ, s3.pre, ((rp.mono s1.b).mono s2.b).mono s3.b, hd.mn _ _ _ _ _ (fun v hv z2 B4 H4 s4 i4 => ?_) (fun x z => z.step (s1.trans (s2.trans s3))) (hk'.2 rfl)⟩
      exact h3.2 B4 H4 z z2 u v _ _ s4.pre (i3.mono s4.b) i4 hv fun b2 hk2 => ⟨b2, rfl, hk2 B4 H4 (s1.trans (s2.trans (s3.trans s4)))⟩
theorem ev_leltle (ha : EV X c W a f) (hb : EV X c W b g) (hc : EV X c W x h) (hd : EV X c W y i) : EV X c W (.Compare a [.LtE, .Lt, .LtE] [b, x, y] pos) (bV (cChain3 f g h i dLe dLt dLe)) := ev_chain3 opc_I opc_I opc_I ha hb hc hd (pe_chain3 op_le op_lt op_le ha.pe hb.pe hc.pe hd.pe (show lastMarks _ _ = false from nomark y))
theorem eb_leltle (ha : EV X c W a f) (hb : EV X c W b g) (hc : EV X c W x h) (hd : EV X c W y i) : EB X c W (.Compare a [.LtE, .Lt, .LtE] [b, x, y] pos) (cChain3 f g h i dLe dLt dLe) := eb_chain3 opc_I opc_I opc_I ha hb hc hd (pt_chain3 op_le op_lt op_le ha.pe hb.pe hc.pe hd.pe (show lastMarks _ _ = false from nomark y))
theorem ev_ltltle (ha : EV X c W a f) (hb : EV X c W b g) (hc : EV X c W x h) (hd : EV X c W y i) : EV X c W (.Compare a [.Lt, .Lt, .LtE] [b, x, y] pos) (bV (cChain3 f g h i dLt dLt dLe)) := ev_chain3 opc_I opc_I opc_I ha hb hc hd (pe_chain3 op_lt op_lt op_le ha.pe hb.pe hc.pe hd.pe (show lastMarks _ _ = false from nomark y))
theorem eb_ltltle (ha : EV X c W a f) (hb : EV X c W b g) (hc : EV X c W x h) (hd : EV X c W y i) : EB X c W (.Compare a [.Lt, .Lt, .LtE] [b, x, y] pos) (cChain3 f g h i dLt dLt dLe) := eb_chain3 opc_I opc_I opc_I ha hb hc hd (pt_chain3 op_lt op_lt op_le ha.pe hb.pe hc.pe hd.pe (show lastMarks _ _ = false from nomark y))
/-- a == b == c -/
theorem ev_eqeq (hu : X.A.units + 64 < cLine) (ha : EV X c W a f) (hb : EV X c W b g) (hc : EV X c W x h) : EV X c W (.Compare a [.Eq, .Eq] [b, x] pos) (bV (cChain f g h dEq dEq)) := ev_chain opc_eq opc_eq ha hb hc (pe_chain (op_eqD hu) (op_eqD hu) ha.pe hb.pe hc.pe (show lastMarks _ _ = false from nomark x))
theorem eb_eqeq (hu : X.A.units + 64 < cLine) (ha : EV X c W a f) (hb : EV X c W b g) (hc : EV X c W x h) : EB X c W (.Compare a [.Eq, .Eq] [b, x] pos) (cChain f g h dEq dEq) := eb_chain (op_eqD hu) (op_eqD hu) opc_eq opc_eq ha hb hc (pt_chain (op_eqD hu) (op_eqD hu) ha.pe hb.pe hc.pe (show lastMarks _ _ = false from nomark x))
/-! ### in, not in -/
def D.fl : D → Bool
  | .non => true
  | .bl _ => true
  | .int _ => true
  | .str _ => true
  | _ => false
def toV : D → V
  | .bl b => .bl b
  | .int i => .int i
  | .str x => .str x
  | _ => .non
theorem Is.toV {B : Hp} {v : V} {d : D} (h : Is c B v d) (f : d.fl = true) : v = toV d ∧ flatV v = true := by
  cases h <;> first | exact ⟨rfl, rfl⟩ | cases f
theorem IsL.toV {B : Hp} : ∀ {vs : List V} {ds : List D}, IsL c B vs ds → ds.all D.fl = true → vs = ds.map Dv.toV ∧ vs.all flatV = true
  | _, _, .nil, _ => ⟨rfl, rfl⟩
  | _, _, .cons r t, f => by
    rw [List.all_cons, Bool.and_eq_true] at f
    obtain ⟨h1, h2⟩ := r.toV f.1
    obtain ⟨h3, h4⟩ := IsL.toV t f.2
    exact ⟨by rw [List.map_cons, h1, h3], by rw [List.all_cons, h2, h4]; rfl⟩
def inD (d : D) (ds : List D) : Bool := ds.any fun e => eqV (toV e) (toV d)
def dInB (neg : Bool) : OpD := fun d e k => ∃ ds, e.items = some ds ∧ d.fl = true ∧ ds.all D.fl = true ∧ k (if neg then !inD d ds else inD d ds)
theorem opc_in {neg : Bool} : OpC c (rIn X.K neg) (dInB neg) := by
  refine ⟨fun d e k k' hk ⟨ds, h1, h2, h3, h4⟩ => ⟨ds, h1, h2, h3, hk _ h4⟩, ?_⟩
  rintro B H x y d e Q k p hx hy ⟨ds, h1, h2, h3, h4⟩ K
  obtain ⟨e1, e2⟩ := hx.toV h2
  have fin : ∀ {a : Addr} {vs : List V}, y = .ref a → (SqL X.K H a vs ∨ SqT X.K H a vs) → IsL c B vs ds → rIn X.K neg x y H Q := fun {a vs} ey sq r => by
    obtain ⟨e3, e4⟩ := r.toV h3
    refine ⟨a, vs, ey, sq, e2, e4, ?_⟩
    have e5 : inV x vs = inD d ds := by
      rw [e1, e3]
      unfold inV inD
      rw [List.any_map]; rfl
    rw [e5]
    exact K _ h4
  cases hy <;> first | cases h1; done | skip
  case tup h r => cases h1; exact fin rfl (.inr (SqT.of (p.bh _ _ h))) r
  case lst h r => cases h1; exact fin rfl (.inl (SqL.of (p.bh _ _ h))) r
  case ro h r => cases h1; exact fin rfl (.inl (Same.l p.bh h)) r
abbrev dIn := dInB false
abbrev dNotIn := dInB true
theorem ev_in (ha : EV X c W a f) (hb : EV X c W b g) (hm : behindInMarks .In b = false := by with_unfolding_all rfl) : EV X c W (.Compare a [.In] [b] pos) (bV (cBin f g dIn)) := ev_cmp op_in_seq opc_in ha hb hm
theorem eb_in (ha : EV X c W a f) (hb : EV X c W b g) (hm : behindInMarks .In b = false := by with_unfolding_all rfl) : EB X c W (.Compare a [.In] [b] pos) (cBin f g dIn) := eb_cmp op_in_seq opc_in ha hb hm
theorem ev_notIn (ha : EV X c W a f) (hb : EV X c W b g) (hm : behindInMarks .NotIn b = false := by with_unfolding_all rfl) : EV X c W (.Compare a [.NotIn] [b] pos) (bV (cBin f g dNotIn)) := ev_cmp op_notIn_seq opc_in ha hb hm
theorem eb_notIn (ha : EV X c W a f) (hb : EV X c W b g) (hm : behindInMarks .NotIn b = false := by with_unfolding_all rfl) : EB X c W (.Compare a [.NotIn] [b] pos) (cBin f g dNotIn) := eb_cmp op_notIn_seq opc_in ha hb hm
end
end Dv

set_option Elab.async false
set_option linter.all false
set_option maxRecDepth 100000
set_option maxHeartbeats 4000000
/-! tuple * n, n 0 or below -/
namespace Dv
open PySem PySem.Spec PyProof.Rows L2
theorem tuple_mul0 (l : Addr) (items : Array Value) (n : Nat) (dd : Option Addr) (sl : Array (Option Value)) (x : Int) (u : Tok) (c0 : (decide (x < -(2 ^ 63)) || decide (x ≥ 2 ^ 63)) = false) (c1 : (items.isEmpty || x == 1) = false) (c2 : (decide (x ≤ 0) || items.isEmpty) = true) :
    Meets (Builtin.«tuple.__mul__» ⟨[.ref l, .int x u], []⟩) (fun _ R s => s.heap.get? l = some { cls := .type "tuple", dict := dd, data := .seq items n, slots := sl } ∧
      R (.ok (.ret (Value.ref s.heap.objs.size))) { s with heap := s.heap.push { cls := Value.type "tuple", data := Data.seq #[] }, toks := s.toks }) :=
  .of_wp fun prog w A R s h => by
    obtain ⟨hp, g, d, tk, os⟩ := s
    obtain ⟨hl, h⟩ := h
    have f1 := AutoSeq1.idx_int
    wp_walk using wpAny_loadPart' hl
    repeat (first
      | (refine wpAny_ite_false (decide_eq_false (by rw [c0]; exact Bool.false_ne_true)) ?_; wp_walk using wpAny_loadPart' hl)
      | (refine wpAny_ite_false (decide_eq_false (by rw [c1]; exact Bool.false_ne_true)) ?_; wp_walk using wpAny_loadPart' hl)
      | (refine wpAny_ite_true (decide_eq_true c2) ?_; wp_walk using wpAny_loadPart' hl))
    exact ⟨_, rfl, h⟩
def rRepT0 (K : PySem.W.Frag) : R2 := fun x y H Q => ∃ l k xs, x = .ref l ∧ y = .int k ∧ SqT K H l xs ∧ xs ≠ [] ∧ k ≤ 0 ∧ -(2 ^ 63) ≤ k ∧ ∀ p, H p = none → Q (.ref p) (upd H p (.tup []))
section
variable {X : Cx} {c : Cn X.K} {W : WX} {a b : Expr} {pos : Pos} {f g : DV}
theorem op_repT0 : OpR X (binaryOp .Mult) (rRepT0 X.K) := by
  intro pins s σ H x y v u Q I rx ry h
  obtain ⟨l, k, xs, rfl, rfl, hT, hne, h1, b1, q⟩ := h
  cases rx
  obtain ⟨t, rfl⟩ := ry
  obtain ⟨its, r, ⟨⟨cls, dd, data, sl⟩, ho, hc, n, hd⟩, _⟩ := I.tuple hT
  simp only at hc hd
  subst hc hd
  have hle := r.length
  have hn : its ≠ [] := fun e => hne (by
    rw [e] at hle
    exact List.eq_nil_of_length_eq_zero hle)
  have hi : its.toArray.isEmpty = false := by
    cases its with
    | nil => exact absurd rfl hn
    | cons a b => rfl
  have c0 : (decide (k < -(2 ^ 63)) || decide (k ≥ 2 ^ 63)) = false := by
    rw [decide_eq_false (by omega), decide_eq_false (by omega)]; rfl
  have c1 : (its.toArray.isEmpty || k == 1) = false := by
    rw [hi, Bool.false_or]
    exact beq_eq_false_iff_ne.mpr (by omega)
  have c2 : (decide (k ≤ 0) || its.toArray.isEmpty) = true := by
    rw [decide_eq_true h1]; rfl
  have tI : s.TypeIs (.ref l) "tuple" := ⟨_, ho, rfl⟩
  refine wpAny_binaryOp_repeat_ref (T := "tuple") (U := "int") (by decide) tI (fun s' => typeIs_int s' k t) noFill_tuple_mul F.fills_int_mul F.slot_int_rmul repeat_tuple F.slot_int_index.lookup
    (call_meets F.slot_int_rmul (typeIs_int s k t) F.entry_int_rmul (F.args_int_rmul_2 _ _) (int_rmul_tuple k t l its.toArray n dd sl)
      ⟨ho, rfl, tI, call_meets F.slot_tuple_mul tI F.entry_tuple_mul (F.args_tuple_mul_2 _ _) (tuple_mul0 l its.toArray n dd sl k t c0 c1 c2) ⟨ho, ?_⟩⟩)
  exact ⟨.ref s.heap.objs.size, _, I.laid (t' := s.toks) (o := .tup []) (fun b ob q => Heap.get?_push_of_some _ q) (Nat.le_refl _) ⟨by simp, [], .nil, IsTup.new _ _⟩, rfl, q _ (I.hok.fresh (Nat.le_refl _))⟩
def dMulA : D → D → (Rv → Prop) → Prop
  | .int i, .int j, k => IntMulOk i j ∧ k (.val (.int (i * j)))
  | .lst xs, .int j, k => (-(2 ^ 63) ≤ j ∧ j < 2 ^ 63 ∧ xs.length * j.toNat ≤ sizeLine) ∧ k (.new (List.replicate j.toNat xs).flatten)
  | .tup xs, .int j, k => ((xs = [] ∨ j = 1) ∧ -(2 ^ 63) ≤ j ∧ j < 2 ^ 63 ∨ xs ≠ [] ∧ 2 ≤ j ∧ j ≤ 1000 ∧ xs.length ≤ 1000 ∨ xs ≠ [] ∧ j ≤ 0 ∧ -(2 ^ 63) ≤ j) ∧ k (.val (.tup (List.replicate j.toNat xs).flatten))
  | _, _, _ => False
theorem opn_mulA : OpN c (fun x y H Q => rMulAll X.K x y H Q ∨ rRepT0 X.K x y H Q) dMulA := by
  refine ⟨fun d e k k' hk q => ?_, ?_⟩
  · unfold dMulA at q ⊢
    split at q
    · exact ⟨q.1, hk _ q.2⟩
    · exact ⟨q.1, hk _ q.2⟩
    · exact ⟨q.1, hk _ q.2⟩
    · exact q
  · intro B H x y d e Q k p hx hy q K
    unfold dMulA at q
    split at q
    · exact .inl (opn_mul.2 B H x y _ _ Q k p hx hy (by unfold dMul; exact q) K)
    · exact .inl (opn_mul.2 B H x y _ _ Q k p hx hy (by unfold dMul; exact q) K)
    · obtain ⟨q0, q4⟩ := q
      rcases q0 with q1 | q1 | ⟨n0, q1, q2⟩
      · exact .inl (opn_mul.2 B H x y _ _ Q k p hx hy (by unfold dMul; exact ⟨.inl q1, q4⟩) K)
      · exact .inl (opn_mul.2 B H x y _ _ Q k p hx hy (by unfold dMul; exact ⟨.inr q1, q4⟩) K)
      · cases hx with
        | tup h1 r1 =>
          cases hy
          refine .inr ⟨_, _, _, rfl, rfl, SqT.of (p.bh _ _ h1), ?_, q1, q2, fun q' hq => ?_⟩
          · rintro rfl; cases r1; exact n0 rfl
          · have e : (List.replicate (Int.toNat ‹Int›) ‹List D›).flatten = [] := by rw [show Int.toNat _ = 0 by omega]; rfl
            rw [e] at q4
            exact K _ _ _ _ (Step.new p hq _) (rv_val (.tup upd_same .nil)) q4
    · exact q.elim
theorem er_mulA (ha : EV X c W a f) (hb : EV X c W b g) : ER X c W (.BinOp a .Mult b pos) (rBin f g dMulA) := er_bin (OpR.or op_mulAll op_repT0) opn_mulA ha hb
end
end Dv

set_option Elab.async false
set_option linter.all false
set_option maxRecDepth 100000
set_option maxHeartbeats 4000000
/-! list(range(..)) -/
namespace Dv
open PySem PySem.Spec PyProof.Rows L2
theorem isL_rg {K : PySem.W.Frag} {c : Cn K} {B : Hp} (a b : Int) : IsL c B (rgV a b) (rngD a b) := by
  unfold rgV rngD
  generalize List.range (b - a).toNat = l
  induction l with
  | nil => exact .nil
  | cons x l ih => exact .cons (.int _) ih
/-- list(range(a, b)) -/
def dLRg : D → D → (Rv → Prop) → Prop
  | .int a, .int b, k => RgOk a b ∧ k (.new (rngD a b))
  | _, _, _ => False
theorem dLRg_mn {d e : D} {k k' : Rv → Prop} (h : ∀ z, k z → k' z) (q : dLRg d e k) : dLRg d e k' := by
  unfold dLRg at q ⊢
  split at q
  · exact ⟨q.1, h _ q.2⟩
  · exact q
def rLRg1 (f : DV) : DR := fun ρ k E => f ρ (fun d => dLRg (.int 0) d k) E
def rLRg2 (f g : DV) : DR := rBin f g dLRg
section
variable {X : Cx} {c : Cn X.K} {W : WX} {e a b : Expr} {pos p p1 p2 : Pos} {f g : DV} {j : Nat}
theorem er_lrg1 (m : Fm X W j) (hl : X.mg "list" = none) (hr : X.mg "range" = none) (ha : EV X c W a f) (hg : Gl X "list" := by rfl) (hg2 : Gl X "range" := by rfl) (na : starEach [a] X.env = (false, eval a X.env) :: starEach [] X.env := by rfl)
    (nb : starEach [Expr.Call (.Name "range" p1) [a] [] p2] X.env = (false, eval (Expr.Call (.Name "range" p1) [a] [] p2) X.env) :: starEach [] X.env := by rfl) :
    ER X c W (.Call (.Name "list" p) [.Call (.Name "range" p1) [a] [] p2] [] pos) (rLRg1 f) := by
  refine ⟨fun ρ k k' E E' hk hE q => ha.mn ρ _ _ E E' (fun d => dLRg_mn hk) hE q, wkE (pe_listRg m.calm hg hl (prg_1 hg2 hr ha.pe na) nb) ?_⟩
  rintro σ H Q ⟨B, ρ, p, rp, q⟩
  refine ⟨B, ρ, p, rp, ha.mn _ _ _ _ _ (fun d hd v B1 H1 s1 i1 => ?_) (fun _ z => z) q⟩
  have z : ∃ n, d = .int n ∧ RgOk 0 n ∧ ∀ v B' H', Step c B H B' H' → RvOk c H B' H' v (.new (rngD 0 n)) → Q v H' := by
    cases d <;> first | exact hd.elim | exact ⟨_, rfl, hd⟩
  obtain ⟨n, rfl, h1, h2⟩ := z
  cases i1
  exact ⟨_, rfl, h1, fun q' hq => h2 _ B1 _ (s1.trans (Step.lay s1.pre hq _)) (rv_new upd_same (isL_rg _ _) (s1.pre.bnone hq) (fresh0 s1 hq))⟩
theorem er_lrg2 (m : Fm X W j) (hl : X.mg "list" = none) (hr : X.mg "range" = none) (ha : EV X c W a f) (hb : EV X c W b g) (hg : Gl X "list" := by rfl) (hg2 : Gl X "range" := by rfl) (na : starEach [a, b] X.env = (false, eval a X.env) :: starEach [b] X.env := by rfl)
    (nb : starEach [b] X.env = (false, eval b X.env) :: starEach [] X.env := by rfl) (hp : (backTo p2 (starEach [b] X.env)).any (·.1) = false := by rfl)
    (nc : starEach [Expr.Call (.Name "range" p1) [a, b] [] p2] X.env = (false, eval (Expr.Call (.Name "range" p1) [a, b] [] p2) X.env) :: starEach [] X.env := by rfl) :
    ER X c W (.Call (.Name "list" p) [.Call (.Name "range" p1) [a, b] [] p2] [] pos) (rLRg2 f g) := by
  refine ⟨fun ρ k k' E E' hk hE q => ha.mn ρ _ _ E E' (fun d q => hb.mn ρ _ _ E E' (fun e q => dLRg_mn hk q) hE q) hE q, wkE (pe_listRg m.calm hg hl (prg_2 hg2 hr ha.pe hb.pe na nb hp) nc) ?_⟩
  rintro σ H Q ⟨B, ρ, p, rp, q⟩
  refine ⟨B, ρ, p, rp, ha.mn _ _ _ _ _ (fun d hd v B1 H1 s1 i1 => ?_) (fun _ z => z) q⟩
  refine ⟨B1, ρ, s1.pre, rp.mono s1.b, hb.mn _ _ _ _ _ (fun e he y B2 H2 s2 i2 => ?_) (fun x z => z.step s1) hd⟩
  have st := s1.trans s2
  unfold dLRg at he
  split at he
  · cases i1
    cases i2
    exact ⟨_, _, rfl, rfl, he.1, fun q' hq => he.2 _ B2 _ (st.trans (Step.lay s2.pre hq _)) (rv_new upd_same (isL_rg _ _) (s2.pre.bnone hq) (fresh0 st hq))⟩
  · exact he.elim
end
section
variable {X : Cx} {c : Cn X.K} {j i : Nat} {f : DV} {tb : List (Nat × DV)}
theorem rows_n : ∀ q ∈ ([] : List (Nat × DV)), LamRow X c j q.1 q.2 := fun q h => nomatch h
theorem rows_c (h : LamRow X c j i f) (t : ∀ q ∈ tb, LamRow X c j q.1 q.2) : ∀ q ∈ (i, f) :: tb, LamRow X c j q.1 q.2 := fun q hq => by
  rcases List.mem_cons.mp hq with e | hq
  · rw [e]; exact h
  · exact t q hq
end
/-- x, y, .. = a list of that length -/
def gTupL (n : Nat) (h : DGs) : DG := fun d ρ k => ∃ ds, d = .lst ds ∧ ds.length = n ∧ h ds ρ k
theorem gTupL_l {n : Nat} {h : DGs} {ds : List D} {ρ : Sl} {k : Sl → Prop} : gTupL n h (.lst ds) ρ k = (ds.length = n ∧ h ds ρ k) := propext ⟨fun ⟨_, e, q⟩ => by cases e; exact q, fun q => ⟨_, rfl, q⟩⟩
theorem gt_tupL {X : Cx} {c : Cn X.K} {pos : Pos} {S : List Nat} {ts : List Expr} {h : DGs} {n x1 : Nat} (hc : X.calm = true) (hg : GTs X c S ts h) (hn : (assignEach ts X.env).length = n := by rfl) (hst : (assignEach ts X.env).findIdx? (·.1) = none := by rfl) : GT X c S (.Tuple ts x1 pos) (gTupL n h) := by
  refine ⟨fun d ρ k k' hk ⟨ds, h1, h2, q⟩ => ⟨ds, h1, h2, hg.mn ds ρ k k' hk q⟩, wkG (pg_unl hc hg.pg hn hst) ?_⟩
  rintro v σ H Q ⟨H0, B0, B, ρ, d, r, i1, ds, rfl, h2, q⟩
  cases i1 with
  | lst h3 il => exact ⟨_, _, rfl, SqL.of (r.pre.bh _ _ h3), by rw [il.length]; exact h2, H0, B0, B, ρ, ds, r, il, q⟩
/-- with a test, over a map -/
theorem compD_fm {α : Type} (h : α → D) (t : α → Bool) (f : α → D) {g : DG} {ft : DB} {fe : DV} {ρ : View} {k : List D → Prop} : ∀ (xs : List α) (acc : List D), (∀ x ∈ xs, ∀ κ κ' : Prop, ∀ κ1 : D → Prop, (t x = true → κ1 (f x)) → (t x = false → κ') → g (h x) (toSl ρ) fun ρ' => ft (viewN ρ') (fun b => (b = true → fe (viewN ρ') κ1 fun _ => False) ∧ (b = false → κ')) fun _ => False) → acc.length + xs.length ≤ sizeLine → k (acc ++ (xs.filter t).map f) → compD g ft fe ρ (xs.map h) acc k
  | [], acc, _, _, hk => by simpa [compD] using hk
  | x :: xs, acc, hs, hl, hk => by
    show g (h x) (toSl ρ) fun ρ' => ft (viewN ρ') (fun b => (b = true → fe (viewN ρ') (fun y => acc.length < sizeLine ∧ compD g ft fe ρ (xs.map h) (acc ++ [y]) k) fun _ => False) ∧ (b = false → compD g ft fe ρ (xs.map h) acc k)) fun _ => False
    rw [List.length_cons] at hl
    refine hs x List.mem_cons_self True _ _ (fun ht => ⟨by omega, compD_fm h t f xs (acc ++ [f x]) (fun d' h' => hs d' (List.mem_cons_of_mem _ h')) (by rw [List.length_append, List.length_singleton]; omega) ?_⟩) fun ht => compD_fm h t f xs acc (fun d' h' => hs d' (List.mem_cons_of_mem _ h')) (by omega) ?_
    · rw [List.filter_cons_of_pos ht] at hk
      simpa using hk
    · rw [List.filter_cons_of_neg (by rw [ht]; exact Bool.false_ne_true)] at hk
      exact hk
/-- {i: v} -/
def vDctI (f g : DV) : DV := fun ρ k E => f ρ (fun d => g ρ (fun _ => (∃ i : Int, d = .int i) ∧ k .dct) E) E
theorem ev_dctI {X : Cx} {c : Cn X.K} {W : WX} {a b : Expr} {pos : Pos} {f g : DV} (ha : EV X c W a f) (hb : EV X c W b g) : EV X c W (.Dict [some a] [b] pos) (vDctI f g) := by
  refine ⟨fun ρ k k' E E' hk hE q => ha.mn ρ _ _ E E' (fun d q => hb.mn ρ _ _ E E' (fun e q => ⟨q.1, hk _ q.2⟩) hE q) hE q, wkE (pe_disp (pps_cons ha.pe hb.pe pps_nil) rfl rfl (by simp) (by simp)) ?_⟩
  rintro σ H Q ⟨B, ρ, p, rp, q⟩
  intro a0 hn
  have s0 := Step.lay p hn (.dK [])
  refine ⟨B, ρ, s0.pre, rp, ha.mn _ _ _ _ _ (fun d hd x B1 H1 s1 i1 => ?_) (fun _ z => z.step s0) q⟩
  refine ⟨B1, ρ, s1.pre, rp.mono s1.b, hb.mn _ _ _ _ _ (fun e he y B2 H2 s2 i2 => ?_) (fun _ z => z.step (s0.trans s1)) hd⟩
  obtain ⟨⟨n, rfl⟩, hk⟩ := he
  have st := (s0.trans s1).trans s2
  have e1 : H2 a0 = some (.dK []) := (s1.trans s2).out a0 _ upd_same (p.nmu hn) fun _ z => nomatch z
  have hb0 : B2 a0 = none := ((s1.trans s2).dom a0 (by rw [upd_same]; exact fun z => nomatch z)).trans (p.bnone hn)
  cases i1
  refine ⟨e1, [(Sum.inl n, y)], rfl, by simp, ?_⟩
  have nk : ¬ Kp (.dK ([] : List (Key × V))) := fun m => by rcases m with ⟨φ, m⟩ | ⟨ob, u, m⟩ <;> cases m
  have s3 := st.put p (o := .dK (mergeK [] [(Sum.inl n, y)])) hn hb0 ⟨_, e1, nk⟩
  exact hk _ _ _ (s3.keep hn p upd_same hb0) (.dct upd_same)
end Dv

set_option Elab.async false
set_option linter.all false
set_option maxRecDepth 100000
set_option maxHeartbeats 4000000
/-! [e for t in .. if .. for t1 in .. if ..] -/
namespace Dv
open PySem PySem.Spec PyProof.Rows L2
def comp2D (g : DG) (ft : DB) (fi1 : DL) (g1 : DG) (ft1 : DB) (fe : DV) (vs1 : List Nat) (ρ : View) : List D → List D → (List D → Prop) → Prop
  | [], acc, k => k acc
  | d :: ds, acc, k => g d (toSl ρ) fun ρ' => ft (viewN ρ') (fun b => (b = true → fi1 (viewN ρ') (fun es => compD g1 ft1 fe (wipeV (viewN ρ') vs1) es acc fun acc' => comp2D g ft fi1 g1 ft1 fe vs1 ρ ds acc' k) fun _ => False) ∧ (b = false → comp2D g ft fi1 g1 ft1 fe vs1 ρ ds acc k)) fun _ => False
def rComp2 (fi : DL) (g : DG) (ft : DB) (fi1 : DL) (g1 : DG) (ft1 : DB) (fe : DV) (vs vs1 : List Nat) : DR := fun ρ k E => fi ρ (fun ds => comp2D g ft fi1 g1 ft1 fe vs1 (wipeV ρ vs) ds [] fun acc => k (.new acc)) E
section
variable {X : Cx} {c : Cn X.K} {W : WX} {e a b tg : Expr} {es : List Expr} {pos p apos cpos : Pos} {f g : DV} {j k : Nat}
theorem comp2D_mn {g g1 : DG} {ft ft1 : DB} {fi1 : DL} {fe : DV} {vs1 : List Nat} {ρ : View} (hg : ∀ d ρ (k k' : Sl → Prop), (∀ ρ, k ρ → k' ρ) → g d ρ k → g d ρ k') (ht : Mn ft) (hi : Mn fi1) (hg1 : ∀ d ρ (k k' : Sl → Prop), (∀ ρ, k ρ → k' ρ) → g1 d ρ k → g1 d ρ k') (ht1 : Mn ft1) (he : Mn fe) :
    ∀ (ds acc : List D) (k k' : List D → Prop), (∀ a, k a → k' a) → comp2D g ft fi1 g1 ft1 fe vs1 ρ ds acc k → comp2D g ft fi1 g1 ft1 fe vs1 ρ ds acc k'
  | [], acc, k, k', hk, q => hk _ q
  | d :: ds, acc, k, k', hk, q => hg d _ _ _ (fun ρ' q => ht _ _ _ _ _ (fun b ⟨q1, q2⟩ => ⟨fun z => hi _ _ _ _ _ (fun es q => compD_mn hg1 ht1 he es acc _ _ (fun acc' q => comp2D_mn hg ht hi hg1 ht1 he ds acc' k k' hk q) q) (fun _ h => h) (q1 z), fun z => comp2D_mn hg ht hi hg1 ht1 he ds _ k k' hk (q2 z)⟩) (fun _ h => h) q) q
theorem comp2_ok {S S1 vs vs1 : List Nat} {fi fi1 : DL} {gt g1 : DG} {ft ft1 : DB} {fe : DV} {iter : Expr} (hi : EI X c W tg iter fi) (hS : ∀ i ∈ S, i ∈ vs) (hS1 : ∀ i ∈ S1, i ∈ vs1) (hg : ∀ d ρ (k k' : Sl → Prop), (∀ ρ, k ρ → k' ρ) → gt d ρ k → gt d ρ k') (ht : Mn ft) (hi1 : Mn fi1) (hg1 : ∀ d ρ (k k' : Sl → Prop), (∀ ρ, k ρ → k' ρ) → g1 d ρ k → g1 d ρ k') (ht1 : Mn ft1) (he : Mn fe) :
    Mn (rComp2 fi gt ft fi1 g1 ft1 fe vs vs1) ∧ ∀ σ H Q, tR c W (rComp2 fi gt ft fi1 g1 ft1 fe vs vs1) σ H Q → tLc2 (tI c W fi) (tG c S gt) (tT c W0 ft) (tI c W0 fi1) (tG c S1 g1) (tT c W0 ft1) (tV c W0 fe) vs vs1 σ H Q := by
  refine ⟨fun ρ k k' E E' hk hE q => hi.mn _ _ _ E E' (fun ds q => comp2D_mn hg ht hi1 hg1 ht1 he ds [] _ _ (fun a => hk _) q) hE q, ?_⟩
  rintro σ H Q ⟨B, ρ, p, rp, q⟩
  refine ⟨B, ρ, p, rp, hi.mn _ _ _ _ _ (fun ds hd J B1 H1 s1 wk Dl hD => ?_) (fun _ z => z) q⟩
  have p1 := s1.pre
  let K : List D → Prop := fun acc => ∀ v B' H', Step c B H B' H' → RvOk c H B' H' v (.new acc) → Q v H'
  let Nx : List D → Hp → Prop := fun rest Hn => ∃ Bn acc an, Step c B1 H1 Bn Hn ∧ Bn Dl = none ∧ Hn Dl = some (.lst an) ∧ IsL c Bn an acc ∧ comp2D gt ft fi1 g1 ft1 fe vs1 (wipeV ρ vs) rest acc K
  refine ⟨fun i m Hc => m = ds.length - i ∧ i ≤ ds.length ∧ Nx (ds.drop i) Hc,
    ⟨ds.length, by simp, Nat.zero_le _, B1, [], [], Step.lay p1 hD _, p1.bnone hD, upd_same, .nil, hd⟩, ?_⟩
  rintro i m Hc ⟨rfl, hle, Bc, acc, av, sc, hb, ha, hl, q⟩
  have sb : Same B1 Bc := sc.b
  obtain ⟨w1, w2⟩ := wk Bc Hc i sb sc.pre
  cases hdr : ds.drop i with
  | nil =>
    rw [hdr] at q
    exact .inl ⟨w2 (Nat.le_antisymm hle (by simpa using hdr)), q _ Bc Hc (s1.trans sc) (rv_new ha hl hb (fresh0 s1 hD))⟩
  | cons d rest =>
    rw [hdr] at q
    obtain ⟨h1, h2⟩ := drop_at hdr
    obtain ⟨go, yl⟩ := w1 d h1
    have hlt : i < ds.length := (List.getElem?_eq_some_iff.mp h1).1
    refine .inr ⟨go, Nx rest, fun Hn n => ⟨ds.length - (i + 1), by omega, rfl, hlt, by rw [h2]; exact n⟩, fun x H' y => ?_⟩
    obtain ⟨B2, st, ix⟩ := yl x H' y
    have nD : ∀ {Ba Ha : Hp}, Step c Bc Hc Ba Ha → Ba Dl = none ∧ Ha Dl = some (.lst av) := fun {Ba Ha} s => by
      have hne : Hc Dl ≠ none := by rw [ha]; exact fun z => nomatch z
      exact ⟨(s.dom Dl hne).trans hb, s.out Dl _ ha (p1.nmu hD) fun _ z => nomatch z⟩
    have sm2 : Same B B2 := fun a o e => st.b a o (sb a o (s1.b a o e))
    have rw2 := (rp.mono sm2).wipe vs
    refine ⟨H', B2, B2, _, d, rw2.rep st.pre, ix, hg _ _ _ _ (fun ρ' q σ' r' bt => ⟨bt.wipe hS, ?_⟩) q⟩
    refine ⟨B2, _, st.pre, r'.viewN, ht _ _ _ _ _ (fun b qb B3 H3 s3 => ?_) XK0 q⟩
    have st3 := st.trans s3
    cases b with
    | false =>
      refine iteF ?_
      obtain ⟨e1, e2⟩ := nD st3
      exact ⟨B3, acc, av, sc.trans st3, e1, e2, hl.mono st3.b, qb.2 rfl⟩
    | true =>
      refine iteT ?_
      refine ⟨B3, _, s3.pre, r'.viewN.mono s3.b, hi1 _ _ _ _ _ (fun es hes J1 B4 H4 s4 wk1 => ?_) XK0 (qb.1 rfl)⟩
      have st4 := st3.trans s4
      obtain ⟨f1, f2⟩ := nD st4
      have sc4 : Step c B1 H1 B4 H4 := sc.trans st4
      refine ⟨fun j k Hk => k = es.length - j ∧ j ≤ es.length ∧ ∃ Bk acc ak, Step c B1 H1 Bk Hk ∧ Same B4 Bk ∧ Bk Dl = none ∧ Hk Dl = some (.lst ak) ∧ IsL c Bk ak acc ∧ compD g1 ft1 fe (wipeV (viewN ρ') vs1) (es.drop j) acc fun acc' => comp2D gt ft fi1 g1 ft1 fe vs1 (wipeV ρ vs) rest acc' K,
        ⟨es.length, by simp, Nat.zero_le _, B4, acc, av, sc4, Same.refl B4, f1, f2, hl.mono st4.b, hes⟩, ?_⟩
      rintro j' k' Hk ⟨rfl, jle, Bk, acck, ak, sk, s4k, hbk, hak, hlk, qk⟩
      obtain ⟨v1, v2⟩ := wk1 Bk Hk j' s4k sk.pre
      cases hdr1 : es.drop j' with
      | nil =>
        rw [hdr1] at qk
        exact .inl ⟨v2 (Nat.le_antisymm jle (by simpa using hdr1)), Bk, acck, ak, sk, hbk, hak, hlk, qk⟩
      | cons d1 rest1 =>
        rw [hdr1] at qk
        obtain ⟨g3, g4⟩ := drop_at hdr1
        obtain ⟨go1, yl1⟩ := v1 d1 g3
        have jlt : j' < es.length := (List.getElem?_eq_some_iff.mp g3).1
        refine .inr ⟨go1, fun Hn => ∃ Bn acc an, Step c B1 H1 Bn Hn ∧ Same B4 Bn ∧ Bn Dl = none ∧ Hn Dl = some (.lst an) ∧ IsL c Bn an acc ∧ compD g1 ft1 fe (wipeV (viewN ρ') vs1) rest1 acc fun acc' => comp2D gt ft fi1 g1 ft1 fe vs1 (wipeV ρ vs) rest acc' K,
          fun Hn ⟨Bn, acc, an, k1, k0, k2, k3, k4, k5⟩ => ⟨es.length - (j' + 1), by omega, rfl, jlt, Bn, acc, an, k1, k0, k2, k3, k4, by rw [g4]; exact k5⟩, fun x1 H5 y1 => ?_⟩
        obtain ⟨B5, st5, ix1⟩ := yl1 x1 H5 y1
        have nD1 : ∀ {Ba Ha : Hp}, Step c Bk Hk Ba Ha → Ba Dl = none ∧ Ha Dl = some (.lst ak) := fun {Ba Ha} s => by
          have hne : Hk Dl ≠ none := by rw [hak]; exact fun z => nomatch z
          exact ⟨(s.dom Dl hne).trans hbk, s.out Dl _ hak (p1.nmu hD) fun _ z => nomatch z⟩
        have sm5 : Same B2 B5 := fun a o e => st5.b a o (s4k a o (s4.b a o (s3.b a o e)))
        have rw5 := (r'.viewN.mono sm5).wipe vs1
        refine ⟨H5, B5, B5, _, d1, rw5.rep st5.pre, ix1, hg1 _ _ _ _ (fun ρ2 q2 σ2 r2 bt2 => ⟨bt2.wipe hS1, ?_⟩) qk⟩
        refine ⟨B5, _, st5.pre, r2.viewN, ht1 _ _ _ _ _ (fun b2 qb2 B6 H6 s6 => ?_) XK0 q2⟩
        have st6 := st5.trans s6
        cases b2 with
        | true =>
          refine iteT ?_
          refine ⟨B6, _, s6.pre, r2.viewN.mono s6.b, he _ _ _ _ _ (fun y qy v B7 H7 s7 iv => ?_) XK0 (qb2.1 rfl)⟩
          have st7 := st6.trans s7
          obtain ⟨e1, e2⟩ := nD1 st7
          have sk7 : Step c B1 H1 B7 H7 := sk.trans st7
          refine ⟨ak, e2, by rw [hlk.length]; exact qy.1, B7, acck ++ [y], ak ++ [v], sk7.put p1 hD e1 ⟨_, e2, nk_lst⟩, fun a o e => st7.b a o (s4k a o e), e1, upd_same, (hlk.mono st7.b).append (.cons iv .nil), qy.2⟩
        | false =>
          refine iteF ?_
          obtain ⟨e1, e2⟩ := nD1 st6
          exact ⟨B6, acck, ak, sk.trans st6, fun a o e => st6.b a o (s4k a o e), e1, e2, hlk.mono st6.b, qb2.2 rfl⟩
theorem er_comp2 {S S1 : List Nat} {fi fi1 : DL} {gt g1 : DG} {ft ft1 : DB} {fe : DV} {tg1 iter iter1 elt : Expr} {ifs ifs1 : List Expr} {scope : Scope} {own : List (Str × Nat)} {vs1 : List Nat} (m : Fm X W j) (hi : EI X c W tg iter fi) (ok : blkC X.N X.env.scope scope own = true)
    (hg : ∀ s H C cl fp, GT (BX X scope s H C cl fp) c S tg gt) (ht : ∀ s H C cl fp, ETs (BX X scope s H C cl fp) c W0 ifs ft) (hi1 : ∀ s H C cl fp, EI (BX X scope s H C cl fp) c W0 tg1 iter1 fi1) (hg1 : ∀ s H C cl fp, GT (BX X scope s H C cl fp) c S1 tg1 g1) (ht1 : ∀ s H C cl fp, ETs (BX X scope s H C cl fp) c W0 ifs1 ft1) (he : ∀ s H C cl fp, EV (BX X scope s H C cl fp) c W0 elt fe)
    (hS : ∀ i ∈ S, i ∈ own.map (·.2) := by decide) (hS1 : ∀ i ∈ S1, i ∈ vs1 := by decide) (hv : ∀ i ∈ vs1, i ∈ own.map (·.2) := by decide) (hs : ∀ x, foldedSetIterable iter X.env x = pure x := by intro _; rfl) (hs1 : ∀ env x, foldedSetIterable iter1 env x = pure x := by intro _ _; rfl) (s0 : Shared := by assumption) :
    ER X c W (.ListComp elt [⟨tg, iter, ifs, 0⟩, ⟨tg1, iter1, ifs1, 0⟩] scope pos) (rComp2 fi gt ft fi1 g1 ft1 fe (own.map (·.2)) vs1) := by
  have h := comp2_ok (vs := own.map (·.2)) (vs1 := vs1) hi hS hS1 (hg s0 (fun _ => none) 0 [] []).mn (ht s0 (fun _ => none) 0 [] []).mn (hi1 s0 (fun _ => none) 0 [] []).mn (hg1 s0 (fun _ => none) 0 [] []).mn (ht1 s0 (fun _ => none) 0 [] []).mn (he s0 (fun _ => none) 0 [] []).mn
  exact ⟨h.1, wkE (pe_lc2 m.calm m.nd hi.pi (blkOk_by ok) hv (fun s H C cl fp => (hg s H C cl fp).pg) (fun s H C cl fp => (ht s H C cl fp).pt) (fun s H C cl fp => (hi1 s H C cl fp).pi) (fun s H C cl fp => (hg1 s H C cl fp).pg) (fun s H C cl fp => (ht1 s H C cl fp).pt) (fun s H C cl fp => (he s H C cl fp).pe) hs hs1) h.2⟩
/-- y = [..] on one line -/
theorem ss_comp2 {S S1 : List Nat} {i : Nat} {y : Str} {py spos : Pos} {fs : DS} {fi fi1 : DL} {gt g1 : DG} {ft ft1 : DB} {fe : DV} {tg1 iter iter1 elt : Expr} {ifs ifs1 : List Expr} {scope : Scope} {own : List (Str × Nat)} {vs1 : List Nat} (m : Fm X W j) (hi : EI X c W tg iter fi) (ok : blkC X.N X.env.scope scope own = true)
    (hg : ∀ s H C cl fp, GT (BX X scope s H C cl fp) c S tg gt) (ht : ∀ s H C cl fp, ETs (BX X scope s H C cl fp) c W0 ifs ft) (hi1 : ∀ s H C cl fp, EI (BX X scope s H C cl fp) c W0 tg1 iter1 fi1) (hg1 : ∀ s H C cl fp, GT (BX X scope s H C cl fp) c S1 tg1 g1) (ht1 : ∀ s H C cl fp, ETs (BX X scope s H C cl fp) c W0 ifs1 ft1) (he : ∀ s H C cl fp, EV (BX X scope s H C cl fp) c W0 elt fe)
    (hok : ∀ {e : Expr}, ER X c W e (rComp2 fi gt ft fi1 g1 ft1 fe (own.map (·.2)) vs1) → MnS fs ∧ ∀ D σ H, tS c W fs D σ H → tAsg (tR c W (rComp2 fi gt ft fi1 g1 ft1 fe (own.map (·.2)) vs1)) (gName i) D σ H)
    (hy : X.N[i]? = some y := by rfl) (hyl : X.env.scope.names.lookup y = some .local := by rfl)
    (hsw : swapsWith (.ListComp elt [⟨tg, iter, ifs, 0⟩, ⟨tg1, iter1, ifs1, 0⟩] scope pos) (some (.Name y py)) spos.line X.env = pure true := by rfl)
    (hS : ∀ i ∈ S, i ∈ own.map (·.2) := by decide) (hS1 : ∀ i ∈ S1, i ∈ vs1 := by decide) (hv : ∀ i ∈ vs1, i ∈ own.map (·.2) := by decide) (hs : ∀ x, foldedSetIterable iter X.env x = pure x := by intro _; rfl) (hs1 : ∀ env x, foldedSetIterable iter1 env x = pure x := by intro _ _; rfl) (s0 : Shared := by assumption) :
    SS X c W (.Assign [.Name y py] (.ListComp elt [⟨tg, iter, ifs, 0⟩, ⟨tg1, iter1, ifs1, 0⟩] scope pos) spos) fs := by
  have h := comp2_ok (vs := own.map (·.2)) (vs1 := vs1) hi hS hS1 (hg s0 (fun _ => none) 0 [] []).mn (ht s0 (fun _ => none) 0 [] []).mn (hi1 s0 (fun _ => none) 0 [] []).mn (hg1 s0 (fun _ => none) 0 [] []).mn (ht1 s0 (fun _ => none) 0 [] []).mn (he s0 (fun _ => none) 0 [] []).mn
  have h2 := hok (er_comp2 (pos := pos) m hi ok hg ht hi1 hg1 ht1 he hS hS1 hv hs hs1 s0)
  refine ⟨h2.1, wkS (ps_setLc2 (wi := tI c W fi) (g := tG c S gt) (tt := tT c W0 ft) (wi1 := tI c W0 fi1) (g1 := tG c S1 g1) (tt1 := tT c W0 ft1) (te := tV c W0 fe) (vs1 := vs1) m.calm m.nd hy hyl hsw hi.pi (blkOk_by ok) hv (fun s H C cl fp => (hg s H C cl fp).pg) (fun s H C cl fp => (ht s H C cl fp).pt) (fun s H C cl fp => (hi1 s H C cl fp).pi) (fun s H C cl fp => (hg1 s H C cl fp).pg) (fun s H C cl fp => (ht1 s H C cl fp).pt) (fun s H C cl fp => (he s H C cl fp).pe) hs hs1) fun D σ H q => ?_⟩
  exact h.2 σ H _ (h2.2 D σ H q)
end
/-- over maps -/
theorem comp2_ml {α : Type} (h : α → D) (u : α → List D) {g g1 : DG} {fi1 : DL} {ft1 : DB} {fe : DV} {vs1 : List Nat} {ρ : View} {k : List D → Prop} : ∀ (xs : List α) (acc : List D), (∀ x ∈ xs, ∀ acc (κ : List D → Prop), acc.length + (u x).length ≤ sizeLine → κ (acc ++ u x) → g (h x) (toSl ρ) fun ρ' => fi1 (viewN ρ') (fun es => compD g1 ft1 fe (wipeV (viewN ρ') vs1) es acc κ) fun _ => False) → acc.length + ((xs.map u).flatten).length ≤ sizeLine → k (acc ++ (xs.map u).flatten) → comp2D g bYes fi1 g1 ft1 fe vs1 ρ (xs.map h) acc k
  | [], acc, _, _, hk => by simpa [comp2D] using hk
  | x :: xs, acc, hs, hl, hk => by
    show g (h x) (toSl ρ) fun ρ' => bYes (viewN ρ') (fun b => (b = true → fi1 (viewN ρ') (fun es => compD g1 ft1 fe (wipeV (viewN ρ') vs1) es acc fun acc' => comp2D g bYes fi1 g1 ft1 fe vs1 ρ (xs.map h) acc' k) fun _ => False) ∧ (b = false → comp2D g bYes fi1 g1 ft1 fe vs1 ρ (xs.map h) acc k)) fun _ => False
    rw [List.map_cons, List.flatten_cons, List.length_append] at hl
    have z := hs x List.mem_cons_self acc (fun acc' => comp2D g bYes fi1 g1 ft1 fe vs1 ρ (xs.map h) acc' k) (by omega) (comp2_ml h u xs _ (fun y hy => hs y (List.mem_cons_of_mem _ hy)) (by rw [List.length_append]; omega) (by rw [List.append_assoc]; exact hk))
    have e : (fun ρ' : Sl => bYes (viewN ρ') (fun b => (b = true → fi1 (viewN ρ') (fun es => compD g1 ft1 fe (wipeV (viewN ρ') vs1) es acc fun acc' => comp2D g bYes fi1 g1 ft1 fe vs1 ρ (xs.map h) acc' k) fun _ => False) ∧ (b = false → comp2D g bYes fi1 g1 ft1 fe vs1 ρ (xs.map h) acc k)) fun _ => False) = (fun ρ' => fi1 (viewN ρ') (fun es => compD g1 ft1 fe (wipeV (viewN ρ') vs1) es acc fun acc' => comp2D g bYes fi1 g1 ft1 fe vs1 ρ (xs.map h) acc' k) fun _ => False) := by
      funext ρ'
      simp [bYes]
    rw [e]
    exact z
end Dv

set_option Elab.async false
set_option linter.all false
set_option maxRecDepth 100000
set_option maxHeartbeats 4000000
/-! target = a new list made of an own one -/
namespace Dv
open PySem PySem.Spec PyProof.Rows L2
variable {X : Cx} {c : Cn X.K} {W : WX} {e : Expr} {pos : Pos} {f : DR} {g : DG}
def sAsgF (f : DR) (g : DG) : DS := fun ρ k E => f (viewB ρ) (fun r => ∃ ds, r = .new ds ∧ D.lf.lfL ds = true ∧ g (.lst ds) ρ k.nx) E
theorem ss_asgF {S : List Nat} {t : Expr} (he : ER X c W e f) (hg : GT X c S t g) (ok : AsgOk X t e pos := by exact ⟨rfl, rfl, rfl⟩) : SS X c W (.Assign [t] e pos) (sAsgF f g) := by
  refine ⟨fun ρ k k' E E' hk hE q => he.mn _ _ _ E E' (fun d ⟨ds, h1, h2, h3⟩ => ⟨ds, h1, h2, hg.mn _ _ _ _ hk.nx h3⟩) hE q, wkS (ps_asg he.pe hg.pg ok.sw ok.st ok.ea) ?_⟩
  rintro D σ H ⟨H0, B0, B, ρ, r, q⟩
  obtain ⟨Bp, pp, sm, ln, rv⟩ := r.lend
  refine ⟨Bp, _, pp, rv, he.mn _ _ _ _ _ (fun d hd v B1 H1 s ro => ?_) (fun x hx => hx.rep r sm ln) q⟩
  obtain ⟨ds, rfl, hl, hd⟩ := hd
  obtain ⟨a, vs, rfl, h1, h2, h3, h4⟩ := ro
  obtain ⟨B', r', s', off, kp⟩ := r.goB sm ln s
  have na : ¬ OwnAt ρ σ a := fun z => by
    obtain ⟨⟨us, e⟩, _⟩ := r.ownH z
    rw [h4] at e; cases e
  have nB : B' a = none := (off a na).trans h3
  have r2 := r'.keepNew h1 nB (fresh0 r.st h4) na
  exact ⟨H0, B0, _, ρ, .lst ds, r2, .lst upd_same ((h2.but kp hl).mono (Same.new nB)), hg.mn _ _ _ _ (fun ρ' q σ' r' _ => q σ' _ H1 r' (s'.trans (Same.new nB))) hd⟩
end Dv


set_option Elab.async false
set_option linter.all false
set_option maxRecDepth 100000
set_option maxHeartbeats 4000000
namespace K12
open PySem PySem.Spec PyProof.Rows L2 Dv
def top (i : Nat) : Stmt := PySem.Challenge.pw_ringstream_k12_whole_least_points.main.body.getD i (.Pass ⟨0, 0, 0, 0⟩)
def Cs : List Str := ["BadPair", "BadPoint", "TooMany"]
def Es : List Str := ["BadPair", "BadPoint", "TooMany"]
def Xs : List Str := ["BadPair", "BadPoint", "TooMany"]
theorem Es_Cs : ∀ C ∈ Es, C ∈ Cs := by decide +kernel
abbrev st__law_caught : Stmt := top 26
theorem sc__law_caught : FnScope ["work", "caught", "error"] ["work"] (defScope st__law_caught) := ⟨rfl, rfl, rfl, by decide +kernel, rfl, by decide +kernel, by decide +kernel⟩
theorem T_bindc : BindP "_law_caught" st__law_caught ["work"] [] 1 id := fun _ _ _ _ _ _ us ws h1 h2 => match us, ws, h1, h2 with | [_], [], _, _ => rfl
def Xs_most : List Str := ["TooMany"]
abbrev st_TooMany : Stmt := inClass (top 5) 0
abbrev st__law_begun : Stmt := top 22
abbrev st__law_mixed : Stmt := top 23
abbrev st__law_take : Stmt := top 24
abbrev st__law_pick : Stmt := top 25
abbrev st__law_common : Stmt := top 29
abbrev st__law_free : Stmt := top 30
abbrev st__law_pair : Stmt := top 31
abbrev st__law_fraction : Stmt := top 33
abbrev st__law_some_pair : Stmt := top 34
abbrev st__law_leg : Stmt := top 32
abbrev st__law_word : Stmt := top 35
abbrev st_is_tuple : Stmt := top 8
abbrev st_is_number : Stmt := top 7
abbrev st_is_pair : Stmt := top 12
abbrev st_need_pair : Stmt := top 13
abbrev st_leg_numbers : Stmt := top 14
abbrev st_points_of : Stmt := top 18
abbrev st_leg_points : Stmt := top 19
abbrev st_is_point_of : Stmt := top 16
abbrev st_point_sum : Stmt := top 20
abbrev st__law_least : Stmt := top 36
abbrev st__law_list_right : Stmt := top 37
abbrev st__law_says : Stmt := top 27
abbrev st_is_point : Stmt := top 17
abbrev st__law_is_number : Stmt := top 28
abbrev st__law_sums_right : Stmt := top 38
abbrev st__law_refused : Stmt := top 39
abbrev st_law : Stmt := top 40
def lmL : List LamT := [lamT (lamQ "_law_refused" st__law_refused) (exprAt st__law_refused 7 [] [0, 0, 1, 1]),
  lamT (lamQ "_law_refused" st__law_refused) (exprAt st__law_refused 9 [] [0, 2]),
  lamT (lamQ "_law_refused" st__law_refused) (exprAt st__law_refused 9 [] [0, 1]),
  lamT (lamQ "_law_refused" st__law_refused) (exprAt st__law_refused 9 [] [0, 0]),
  lamT (lamQ "law" st_law) (exprAt st_law 1 [3, 0] [0, 0, 1, 1]),
  lamT (lamQ "law" st_law) (exprAt st_law 1 [3, 1] [0, 0, 1, 1])]
def lmT (i : Nat) : LamT := lmL.getD i (lamT "" (.Constant .none 0 ⟨0, 0, 0, 0⟩))
abbrev Lm (Tt : List (Addr × Str)) : LamP := ⟨Tt, lmT⟩
structure Txt (P : Program) (K : PySem.W.Frag) (mg : Str → Option Value) (base : Heap) (ca : Str → Addr) (Tt : List (Addr × Str)) : Prop where
  g__law_begun : mg "_law_begun" = some (.ref (ca "_law_begun"))
  f__law_begun : ∃ fd, Fun K "_law_begun" "_law_begun" st__law_begun (ca "_law_begun") fd
  g__law_mixed : mg "_law_mixed" = some (.ref (ca "_law_mixed"))
  f__law_mixed : ∃ fd, Fun K "_law_mixed" "_law_mixed" st__law_mixed (ca "_law_mixed") fd
  g__law_take : mg "_law_take" = some (.ref (ca "_law_take"))
  f__law_take : ∃ fd, Fun K "_law_take" "_law_take" st__law_take (ca "_law_take") fd
  g__law_pick : mg "_law_pick" = some (.ref (ca "_law_pick"))
  f__law_pick : ∃ fd, Fun K "_law_pick" "_law_pick" st__law_pick (ca "_law_pick") fd
  g__law_common : mg "_law_common" = some (.ref (ca "_law_common"))
  f__law_common : ∃ fd, Fun K "_law_common" "_law_common" st__law_common (ca "_law_common") fd
  g__law_free : mg "_law_free" = some (.ref (ca "_law_free"))
  f__law_free : ∃ fd, Fun K "_law_free" "_law_free" st__law_free (ca "_law_free") fd
  g__law_pair : mg "_law_pair" = some (.ref (ca "_law_pair"))
  f__law_pair : ∃ fd, Fun K "_law_pair" "_law_pair" st__law_pair (ca "_law_pair") fd
  g__law_fraction : mg "_law_fraction" = some (.ref (ca "_law_fraction"))
  f__law_fraction : ∃ fd, Fun K "_law_fraction" "_law_fraction" st__law_fraction (ca "_law_fraction") fd
  g__law_some_pair : mg "_law_some_pair" = some (.ref (ca "_law_some_pair"))
  f__law_some_pair : ∃ fd, Fun K "_law_some_pair" "_law_some_pair" st__law_some_pair (ca "_law_some_pair") fd
  g__law_leg : mg "_law_leg" = some (.ref (ca "_law_leg"))
  f__law_leg : ∃ fd, Fun K "_law_leg" "_law_leg" st__law_leg (ca "_law_leg") fd
  g__law_word : mg "_law_word" = some (.ref (ca "_law_word"))
  f__law_word : ∃ fd, Fun K "_law_word" "_law_word" st__law_word (ca "_law_word") fd
  g_is_tuple : mg "is_tuple" = some (.ref (ca "is_tuple"))
  f_is_tuple : ∃ fd, Fun K "is_tuple" "is_tuple" st_is_tuple (ca "is_tuple") fd
  g_is_number : mg "is_number" = some (.ref (ca "is_number"))
  f_is_number : ∃ fd, Fun K "is_number" "is_number" st_is_number (ca "is_number") fd
  g_is_pair : mg "is_pair" = some (.ref (ca "is_pair"))
  f_is_pair : ∃ fd, Fun K "is_pair" "is_pair" st_is_pair (ca "is_pair") fd
  g_need_pair : mg "need_pair" = some (.ref (ca "need_pair"))
  f_need_pair : ∃ fd, Fun K "need_pair" "need_pair" st_need_pair (ca "need_pair") fd
  g_leg_numbers : mg "leg_numbers" = some (.ref (ca "leg_numbers"))
  f_leg_numbers : ∃ fd, Fun K "leg_numbers" "leg_numbers" st_leg_numbers (ca "leg_numbers") fd
  g_points_of : mg "points_of" = some (.ref (ca "points_of"))
  f_points_of : ∃ fd, Fun K "points_of" "points_of" st_points_of (ca "points_of") fd
  g_leg_points : mg "leg_points" = some (.ref (ca "leg_points"))
  f_leg_points : ∃ fd, Fun K "leg_points" "leg_points" st_leg_points (ca "leg_points") fd
  g_is_point_of : mg "is_point_of" = some (.ref (ca "is_point_of"))
  f_is_point_of : ∃ fd, Fun K "is_point_of" "is_point_of" st_is_point_of (ca "is_point_of") fd
  g_point_sum : mg "point_sum" = some (.ref (ca "point_sum"))
  f_point_sum : ∃ fd, Fun K "point_sum" "point_sum" st_point_sum (ca "point_sum") fd
  g__law_least : mg "_law_least" = some (.ref (ca "_law_least"))
  f__law_least : ∃ fd, Fun K "_law_least" "_law_least" st__law_least (ca "_law_least") fd
  g__law_list_right : mg "_law_list_right" = some (.ref (ca "_law_list_right"))
  f__law_list_right : ∃ fd, Fun K "_law_list_right" "_law_list_right" st__law_list_right (ca "_law_list_right") fd
  g__law_says : mg "_law_says" = some (.ref (ca "_law_says"))
  f__law_says : ∃ fd, Fun K "_law_says" "_law_says" st__law_says (ca "_law_says") fd
  g_is_point : mg "is_point" = some (.ref (ca "is_point"))
  f_is_point : ∃ fd, Fun K "is_point" "is_point" st_is_point (ca "is_point") fd
  g__law_is_number : mg "_law_is_number" = some (.ref (ca "_law_is_number"))
  f__law_is_number : ∃ fd, Fun K "_law_is_number" "_law_is_number" st__law_is_number (ca "_law_is_number") fd
  g__law_sums_right : mg "_law_sums_right" = some (.ref (ca "_law_sums_right"))
  f__law_sums_right : ∃ fd, Fun K "_law_sums_right" "_law_sums_right" st__law_sums_right (ca "_law_sums_right") fd
  g__law_refused : mg "_law_refused" = some (.ref (ca "_law_refused"))
  lc__law_refused : LamF K mg base ca (Lm Tt) "_law_refused" st__law_refused
  lc_law : LamF K mg base ca (Lm Tt) "law" st_law
  hn : PySem.W.specialIn K (.builtin "object.__class__") "__get__" = some (some (.builtin "getset_descriptor.__get__"))
  htk : PySem.W.takesIn K (.builtin "object.__class__") = some true
  kt : KtF K ca Cs
  cf : CaughtF K mg ca Xs "_law_caught" st__law_caught
  x_BadPair : ExcF K mg ca "BadPair"
  x_BadPoint : ExcF K mg ca "BadPoint"
  x_TooMany : ErrF K P mg ca "TooMany" "most"
  xf_most : XfF K ca Xs_most "most"
  g_BadPair : mg "BadPair" = some (.ref (ca "BadPair"))
  g_BadPoint : mg "BadPoint" = some (.ref (ca "BadPoint"))
  g_TooMany : mg "TooMany" = some (.ref (ca "TooMany"))
  b_abs : mg "abs" = none
  b_bool : mg "bool" = none
  b_enumerate : mg "enumerate" = none
  b_int : mg "int" = none
  b_isinstance : mg "isinstance" = none
  b_len : mg "len" = none
  b_list : mg "list" = none
  b_max : mg "max" = none
  b_min : mg "min" = none
  b_range : mg "range" = none
  b_repr : mg "repr" = none
  b_tuple : mg "tuple" = none
  m_gcd : mg "gcd" = some (.builtin "math.gcd")
  i_MOST_BELOW : ∃ t, mg "MOST_BELOW" = some (.int 1000000000000000000000000000000 t)
  i_MOST_NUMBERS : ∃ t, mg "MOST_NUMBERS" = some (.int 400 t)
def b1_law_begun : DS := (sOwnN 1 (rComp (iOf (dVar 0)) (gN 3) (cBin (vR (rCall (aCons (dVar 3) aNil) (on1 (i1 iAbs)))) (vR (rBin (dC (.int 10)) (dC (.int 18)) dPw)) dGe) (vR (rBin (vR (rCall (aCons (dVar 3) aNil) (on1 (i1 iAbs)))) (vR (rBin (dC (.int 10)) (dC (.int 18)) dPw)) dSub)) [2, 3]))
def b2_law_begun : DR := (rComp (iOf (dVar 0)) (gN 3) bYes (vR (rCall (aCons (vR (rCall (aCons (dVar 3) aNil) (on1 (i1 iAbs)))) aNil) (on1 dInt))) [2, 3])
def F__law_mixed : DF := dfS 6
  (sCons (sDrPut 0 (vR (rBin (vDr 0) (dC (.int 1)) dAdd)))
  (sCons (sParN 1 2 false false (rCall (aCons (vDr 0) aNil) (on1 dInt)) (rV (dC (.int 0))))
  (sCons (sFor (iOf (vR (dLst (aCons (dC (.int 2147483629)) (aCons (dC (.int 2147483587)) (aCons (dC (.int 2147483579)) (aCons (dC (.int 2147483563)) aNil))))))) (gN 3) (sCons (sSetN 4 (vR (rBin (vR (rBin (vR (rBin (dVar 1) (dC (.int 69621)) dMulA)) (vR (rBin (dVar 3) (dC (.int 13)) dFd)) dAdd)) (dVar 3) dMd)))
  (sCons (sFor (iDr 0) (gN 5) (sCons (sSetN 4 (vR (rBin (vR (rBin (vR (rBin (vR (rBin (dVar 4) (dC (.int 48271)) dMulA)) (vR (rCall (aCons (dVar 5) aNil) (on1 dInt))) dAdd)) (dC (.int 3)) dAdd)) (dVar 3) dMd)))
  sNil))
  (sCons (sSetN 2 (vR (rBin (vR (rBin (dVar 2) (dC (.int 2147483647)) dMulA)) (vR (rBin (vR (rBin (dVar 4) (dC (.int 5)) dPw)) (dVar 3) dMd)) dAdd)))
  sNil))))
  (sCons (sRetB (rV (dVar 2)))
  sNil))))
def F__law_take : DF := dfS 3
  (sCons (sIf (cBin (vDr 0) (dC (.int 0)) dEq) (sCons (sDrPut 0 (vR (rDrNext 0 (dCall (aCons (dVar 0) aNil) F__law_mixed))))
  sNil) sNil)
  (sCons (sSetN 2 (vR (rBin (vR (rCall (aCons (vDr 0) aNil) (on1 dInt))) (dVar 1) dMd)))
  (sCons (sDrPut 0 (vR (rBin (vR (rCall (aCons (vDr 0) aNil) (on1 dInt))) (dVar 1) dFd)))
  (sCons (sRetB (rV (dVar 2)))
  sNil))))
def F__law_pick : DF := dfS 2
  (sCons (sRetB (rBin (dVar 1) (vR (dCall (aCons (dVar 0) (aCons (vR (rCall (aCons (dVar 1) aNil) (on1 dLen))) aNil)) F__law_take)) dIx))
  sNil)
def F__law_common : DF := dfS 2
  (sCons (sParN 0 1 false false (rCall (aCons (vR (rCall (aCons (dVar 0) aNil) (on1 dInt))) aNil) (on1 (i1 iAbs))) (rCall (aCons (vR (rCall (aCons (dVar 1) aNil) (on1 dInt))) aNil) (on1 (i1 iAbs))))
  (sCons (sWhile (cBin (dVar 1) (dC (.int 0)) dNe) (sCons (sParN 0 1 false false (rV (dVar 1)) (rBin (vR (rCall (aCons (dVar 0) aNil) (on1 dInt))) (vR (rCall (aCons (dVar 1) aNil) (on1 dInt))) dMd))
  sNil))
  (sCons (sRetB (rV (dVar 0)))
  sNil)))
def F__law_free : DF := dfS 3
  (sCons (sRetB (rComp (iArg (aCons (dC (.int 1)) (aCons (dVar 0) aNil)) rng2) (gN 2) (cBin (vR (dCall (aCons (dVar 2) (aCons (dVar 0) aNil)) F__law_common)) (dC (.int 1)) dEq) (dVar 2) [1, 2]))
  sNil)
def F__law_pair : DF := dfS 3
  (sCons (sSetN 2 (vR (dCall (aCons (dVar 0) (aCons (vR (dLst (aCons (dC (.int 2)) (aCons (dC (.int 2)) (aCons (dC (.int 3)) (aCons (dC (.int 3)) (aCons (dC (.int 4)) (aCons (dC (.int 5)) (aCons (vR (rBin (dC (.int 2)) (vR (dCall (aCons (dVar 0) (aCons (vR (rBin (dVar 1) (dC (.int 1)) dSub)) aNil)) F__law_take)) dAdd)) (aCons (dVar 1) (aCons (vR (rBin (dVar 1) (dC (.int 1)) dSub)) aNil))))))))))) aNil)) F__law_pick)))
  (sCons (sSetN 2 (vR (rCall (aCons (dC (.int 2)) (aCons (vR (rCall (aCons (vR (rCall (aCons (dVar 2) aNil) (on1 dInt))) (aCons (vR (rCall (aCons (dVar 1) aNil) (on1 dInt))) aNil)) (on2 (i2 iMin)))) aNil)) (on2 (i2 iMax)))))
  (sCons (sRetB (rV (dTup (aCons (vR (dCall (aCons (dVar 0) (aCons (vR (dCall (aCons (dVar 2) aNil) F__law_free)) aNil)) F__law_pick)) (aCons (dVar 2) aNil)))))
  sNil)))
def F__law_fraction : DF := dfS 4
  (sCons (sAsgN (dTup (aCons (dC (.int 0)) (aCons (dC (.int 1)) aNil))) (gTup 2 (gCons (gN 1) (gCons (gN 2) gNil))))
  (sCons (sFor (iOf (vR (rRev (dVar 0) (oSome (dNeg (dC (.int 1))))))) (gN 3) (sCons (sParN 1 2 false false (rV (dVar 2)) (rBin (vR (rBin (dVar 3) (dVar 2) dMulA)) (dVar 1) dSub))
  sNil))
  (sCons (sRetB (rV (dTup (aCons (dVar 1) (aCons (dVar 2) aNil)))))
  sNil)))
def F__law_some_pair : DF := dfS 5
  (sCons (sSetN 1 (vR (dCall (aCons (dVar 0) (aCons (dC (.int 5)) aNil)) F__law_take)))
  (sCons (sIf (cBin (dVar 1) (dC (.int 0)) dEq) (sCons (sRetB (dCall (aCons (dVar 0) (aCons (vR (dLst (aCons (dTup (aCons (dC (.int 0)) (aCons (dC (.int 1)) aNil))) (aCons (dTup (aCons (dC (.int 400)) (aCons (dC (.int 401)) aNil))) (aCons (dTup (aCons (dC (.int 1)) (aCons (dC (.int 400)) aNil))) (aCons (dTup (aCons (dC (.int 1)) (aCons (vR (rBin (dC (.int 10)) (dC (.int 30)) dPw)) aNil))) (aCons (dTup (aCons (vR (rBin (vR (dCall (aCons (dVar 0) (aCons (dC (.int 400)) aNil)) F__law_take)) (dC (.int 1)) dAdd)) (aCons (dC (.int 401)) aNil))) aNil))))))) aNil)) F__law_pick))
  sNil) sNil)
  (sCons (sIf (cBin (dVar 1) (dC (.int 3)) dLt) (sCons (sRetB (dCall (aCons (dVar 0) (aCons (dC (.int 60)) aNil)) F__law_pair))
  sNil) sNil)
  (sCons (sSetN 2 (vR (rComp (iArg (aCons (vR (rBin (dC (.int 1)) (vR (dCall (aCons (dVar 0) (aCons (dC (.int 8)) aNil)) F__law_take)) dAdd)) aNil) rng1) (gN 4) bYes (vR (rBin (dC (.int 2)) (vR (dCall (aCons (dVar 0) (aCons (vR (dCall (aCons (dVar 0) (aCons (vR (dLst (aCons (dC (.int 2)) (aCons (dC (.int 5)) (aCons (dC (.int 1000)) aNil))))) aNil)) F__law_pick)) aNil)) F__law_take)) dAdd)) [3, 4])))
  (sCons (sRetB (dCall (aCons (dVar 2) aNil) F__law_fraction))
  sNil)))))
def F__law_leg : DF := dfS 8
  (sCons (sParsN [(3, true), (4, false), (5, false)] ((dLst aNil) ::
   ((rV (dVar 1)) ::
   ((rV (dVar 0)) ::
   []))))
  (sCons (sFor (iArg (aCons (vR (rBin (dVar 2) (dC (.int 1)) dAdd)) aNil) rng1) (gN 6) (sCons (sIf (cBin (dVar 5) (dC (.int 0)) dEq) (sCons (sRetO 3)
  sNil) sNil)
  (sCons (sSetN 7 (vR (rBin (vR (rBin (vR (rBin (dVar 4) (dVar 5) dAdd)) (dC (.int 1)) dSub)) (dVar 5) dFd)))
  (sCons (sAppN 3 (dVar 7))
  (sCons (sParN 4 5 false false (rV (dVar 5)) (rBin (vR (rBin (dVar 7) (dVar 5) dMulA)) (dVar 4) dSub))
  sNil)))))
  (sCons (sRetB (rV (dC .non)))
  sNil)))
def F__law_word : DF := dfS 1
  (sCons (sIf (bTru (vR (rCall (aCons (dVar 0) (aCons (dC (.fn "TooMany")) aNil)) (on2 (dIsi (ktX Cs Es)))))) (sCons (sRetB (rBin (dC (.str "many ")) (vR (rCall (aCons (dXf (dVar 0) Xs_most "most") aNil) (on1 dRepr))) dAdd))
  sNil) sNil)
  (sCons (sRetB (rIf (bTru (vR (rCall (aCons (dVar 0) (aCons (dC (.fn "BadPair")) aNil)) (on2 (dIsi (ktX Cs Es)))))) (rV (dC (.str "pair"))) (rIf (bTru (vR (rCall (aCons (dVar 0) (aCons (dC (.fn "BadPoint")) aNil)) (on2 (dIsi (ktX Cs Es)))))) (rV (dC (.str "point"))) (rV (dC (.str "other"))))))
  sNil))
def F_is_tuple : DF := dfS 2
  (sCons (sRetB (rV (vAnd (vR (rCall (aCons (dVar 0) (aCons (dC (.typ "tuple")) aNil)) (on2 (dIsi (kt Cs))))) (bV (cBin (vR (rCall (aCons (dVar 0) aNil) (on1 dLen))) (dVar 1) dEq)))))
  sNil)
def F_is_number : DF := dfS 1
  (sCons (sRetB (rV (vAnd (vR (rCall (aCons (dVar 0) (aCons (dC (.typ "int")) aNil)) (on2 (dIsi (kt Cs))))) (vNot (vR (rCall (aCons (dVar 0) (aCons (dC (.typ "bool")) aNil)) (on2 (dIsi (kt Cs)))))))))
  sNil)
def F_is_pair : DF := dfS 1
  (sCons (sIf (bOr (bNot (bTru (vR (dCall (aCons (dVar 0) (aCons (dC (.int 2)) aNil)) F_is_tuple)))) (bOr (bNot (bTru (vR (dCall (aCons (vR (rBin (dVar 0) (dC (.int 0)) dIx)) aNil) F_is_number)))) (bNot (bTru (vR (dCall (aCons (vR (rBin (dVar 0) (dC (.int 1)) dIx)) aNil) F_is_number)))))) (sCons (sRetB (rV (dC (.bl false))))
  sNil) sNil)
  (sCons (sRetB (rV (vAnd (bV (cChain3 (dC (.int 0)) (vR (rBin (dVar 0) (dC (.int 0)) dIx)) (vR (rBin (dVar 0) (dC (.int 1)) dIx)) (dC (.int 1000000000000000000000000000000)) dLe dLt dLe)) (bV (cBin (vR (rCall (aCons (vR (rBin (dVar 0) (dC (.int 0)) dIx)) (aCons (vR (rBin (dVar 0) (dC (.int 1)) dIx)) aNil)) (on2 (i2 iGcd)))) (dC (.int 1)) dEq)))))
  sNil))
def F_need_pair : DF := dfS 1
  (sCons (sIf (bNot (bTru (vR (dCall (aCons (dVar 0) aNil) F_is_pair)))) (sCons (sRaise0 "BadPair")
  sNil) sNil)
  sNil)
def F_leg_numbers : DF := dfS 5
  (sCons (sAsgN (dVar 0) (gTup 2 (gCons (gN 1) (gCons (gN 2) gNil))))
  (sCons (sOwnN 3 (dLst aNil))
  (sCons (sWhile (cBin (dVar 1) (dC (.int 0)) dGt) (sCons (sIf (cBin (vR (rCall (aCons (dVar 3) aNil) (on1 dLen))) (dC (.int 400)) dEq) (sCons (sRaise1 "TooMany" "most" (aCons (dC (.int 400)) aNil))
  sNil) sNil)
  (sCons (sSetN 4 (vR (rBin (vR (rBin (vR (rBin (dVar 2) (dVar 1) dAdd)) (dC (.int 1)) dSub)) (dVar 1) dFd)))
  (sCons (sAppN 3 (dVar 4))
  (sCons (sParN 1 2 false false (rBin (vR (rBin (dVar 4) (dVar 1) dMulA)) (dVar 2) dSub) (rV (dVar 1)))
  sNil)))))
  (sCons (sRetB (rCall (aCons (dVar 3) aNil) (on1 dTuple)))
  sNil))))
def F_points_of : DF := dfS 9
  (sCons (sAsgN (dVar 0) (gTup 2 (gCons (gN 1) (gCons (gN 2) gNil))))
  (sCons (sOwnN 3 (dLst (aCons (dTup (aCons (dC (.int 0)) (aCons (dVar 2) aNil))) (aCons (dTup (aCons (dC (.int 1)) (aCons (dVar 1) aNil))) aNil))))
  (sCons (sFor (iOf (vR (dCall (aCons (dVar 0) aNil) F_leg_numbers))) (gN 4) (sCons (sAsgF (rCut (dVar 3) (oSome (dNeg (dC (.int 2)))) oNone) (gTupL 2 (gCons (gTup 2 (gCons (gN 5) (gCons (gN 6) gNil))) (gCons (gTup 2 (gCons (gN 7) (gCons (gN 8) gNil))) gNil))))
  (sCons (sAppN 3 (dTup (aCons (vR (rBin (vR (rBin (dVar 4) (dVar 7) dMulA)) (dVar 5) dSub)) (aCons (vR (rBin (vR (rBin (dVar 4) (dVar 8) dMulA)) (dVar 6) dSub)) aNil))))
  sNil)))
  (sCons (sRetO 3)
  sNil))))
def F_leg_points : DF := dfS 1
  (sCons (sExpr (vR (dCall (aCons (dVar 0) aNil) F_need_pair)))
  (sCons (sRetB (dCall (aCons (dVar 0) aNil) F_points_of))
  sNil))
def F_is_point_of : DF := dfS 6
  (sCons (sIf (bOr (bNot (bTru (vR (dCall (aCons (dVar 1) (aCons (dC (.int 2)) aNil)) F_is_tuple)))) (bOr (bNot (bTru (vR (dCall (aCons (vR (rBin (dVar 1) (dC (.int 0)) dIx)) aNil) F_is_number)))) (bNot (bTru (vR (dCall (aCons (vR (rBin (dVar 1) (dC (.int 1)) dIx)) aNil) F_is_number)))))) (sCons (sRetB (rV (dC (.bl false))))
  sNil) sNil)
  (sCons (sAsgN (dVar 0) (gTup 2 (gCons (gN 2) (gCons (gN 3) gNil))))
  (sCons (sAsgN (dVar 1) (gTup 2 (gCons (gN 4) (gCons (gN 5) gNil))))
  (sCons (sRetB (rV (vAnd (bV (cBin (dVar 4) (dC (.int 0)) dGe)) (vAnd (bV (cBin (dVar 5) (dC (.int 0)) dGe)) (vAnd (bV (cBin (vR (rBin (dVar 4) (dVar 5) dAdd)) (dC (.int 0)) dGt)) (bV (cBin (vR (rBin (vR (rBin (dVar 5) (vR (rBin (dVar 2) (dVar 4) dMulA)) dSub)) (dVar 3) dMd)) (dC (.int 0)) dEq)))))))
  sNil))))
def F_point_sum : DF := dfS 13
  (sCons (sExpr (vR (dCall (aCons (dVar 0) aNil) F_need_pair)))
  (sCons (sSetN 2 (vR (dCall (aCons (dVar 0) aNil) F_points_of)))
  (sCons (sIf (bNot (bTru (vR (dCall (aCons (dVar 0) (aCons (dVar 1) aNil)) F_is_point_of)))) (sCons (sRaise0 "BadPoint")
  sNil) sNil)
  (sCons (sSetN 3 (vR (rBin (dVar 0) (dC (.int 1)) dIx)))
  (sCons (sAsgN (dVar 1) (gTup 2 (gCons (gN 4) (gCons (gN 5) gNil))))
  (sCons (sFor (iArg (aCons (vR (rCut (dVar 2) oNone (oSome (dNeg (dC (.int 1)))))) aNil) enu1) (gTup 2 (gCons (gN 6) (gCons (gTup 2 (gCons (gN 7) (gCons (gN 8) gNil))) gNil))) (sCons (sAsgN (vR (rBin (dVar 2) (vR (rBin (dVar 6) (dC (.int 1)) dAdd)) dIx)) (gTup 2 (gCons (gN 9) (gCons (gN 10) gNil))))
  (sCons (sParN 11 12 false false (rBin (vR (rBin (vR (rBin (dVar 5) (dVar 9) dMulA)) (vR (rBin (dVar 4) (dVar 10) dMulA)) dSub)) (dVar 3) dFd) (rBin (vR (rBin (vR (rBin (dVar 4) (dVar 8) dMulA)) (vR (rBin (dVar 5) (dVar 7) dMulA)) dSub)) (dVar 3) dFd))
  (sCons (sIf (bAnd (cBin (dVar 11) (dC (.int 0)) dGt) (cBin (dVar 12) (dC (.int 0)) dGe)) (sCons (sRetB (rV (dTup (aCons (dVar 6) (aCons (dVar 11) (aCons (dVar 12) aNil))))))
  sNil) sNil)
  sNil))))
  (sCons (sRetB (rV (dTup (aCons (vR (rBin (vR (rCall (aCons (dVar 2) aNil) (on1 dLen))) (dC (.int 1)) dSub)) (aCons (vR (rBin (dVar 4) (dVar 3) dFd)) (aCons (dC (.int 0)) aNil))))))
  sNil)))))))
def F__law_least : DF := dfS 7
  (sCons (sSetN 2 (vR (rBin (vR (dLst (aCons (dTup (aCons (dC (.int 0)) (aCons (dVar 1) aNil))) aNil))) (vR (rComp (iArg (aCons (dC (.int 1)) (aCons (vR (rBin (dVar 1) (dC (.int 1)) dAdd)) aNil)) rng2) (gN 4) bYes (dTup (aCons (dVar 4) (aCons (vR (rBin (vR (rCall (aCons (vR (rBin (dVar 0) (dVar 4) dMulA)) aNil) (on1 dInt))) (vR (rCall (aCons (dVar 1) aNil) (on1 dInt))) dMd)) aNil))) [3, 4])) dAdd)))
  (sCons (sRetB (rComp (iOf (dVar 2)) (gN 5) (cBin (vR (rComp (iOf (dVar 2)) (gN 6) (bAnd (cBin (dVar 6) (dVar 5) dNe) (bAnd (cBin (vR (rBin (dVar 6) (dC (.int 0)) dIx)) (vR (rBin (dVar 5) (dC (.int 0)) dIx)) dLe) (cBin (vR (rBin (dVar 6) (dC (.int 1)) dIx)) (vR (rBin (dVar 5) (dC (.int 1)) dIx)) dLe))) (dC (.int 1)) [3, 6])) (vR (dLst aNil)) dEq) (dVar 5) [3, 5]))
  sNil))
def F__law_list_right : DF := dfS 12
  (sCons (sAsgN (dVar 0) (gTup 2 (gCons (gN 2) (gCons (gN 3) gNil))))
  (sCons (sOwnN 4 (dCall (aCons (dVar 0) aNil) F_leg_points))
  (sCons (sIf (bOr (bNot (bTru (vR (rCall (aCons (dVar 4) (aCons (dC (.typ "list")) aNil)) (on2 (dIsi (kt Cs))))))) (bOr (cBin (vR (rCall (aCons (vR (rCut (dVar 4) oNone (oSome (dC (.int 2))))) aNil) (on1 dRepr))) (vR (rCall (aCons (vR (dLst (aCons (dTup (aCons (dC (.int 0)) (aCons (dVar 3) aNil))) (aCons (dTup (aCons (dC (.int 1)) (aCons (dVar 2) aNil))) aNil)))) aNil) (on1 dRepr))) dNeS) (bOr (cBin (vR (rCall (aCons (dVar 4) aNil) (on1 dLen))) (vR (rBin (vR (rCall (aCons (dVar 1) aNil) (on1 dLen))) (dC (.int 2)) dAdd)) dNe) (cBin (vR (rBin (dVar 4) (dNeg (dC (.int 1))) dIx)) (dTup (aCons (dVar 3) (aCons (dC (.int 0)) aNil))) dNe)))) (sCons (sRetB (rV (dC (.bl false))))
  sNil) sNil)
  (sCons (sFor (iArg (aCons (dVar 1) aNil) enu1) (gTup 2 (gCons (gN 5) (gCons (gN 6) gNil))) (sCons (sAsgB (dTup (aCons (vR (rBin (dVar 4) (dVar 5) dIx)) (aCons (vR (rBin (dVar 4) (vR (rBin (dVar 5) (dC (.int 1)) dAdd)) dIx)) aNil))) (gTup 2 (gCons (gTup 2 (gCons (gN 7) (gCons (gN 8) gNil))) (gCons (gTup 2 (gCons (gN 9) (gCons (gN 10) gNil))) gNil))))
  (sCons (sIf (cBin (vR (rCall (aCons (vR (rBin (dVar 4) (vR (rBin (dVar 5) (dC (.int 2)) dAdd)) dIx)) aNil) (on1 dRepr))) (vR (rCall (aCons (dTup (aCons (vR (rBin (vR (rBin (dVar 6) (dVar 9) dMulA)) (dVar 7) dSub)) (aCons (vR (rBin (vR (rBin (dVar 6) (dVar 10) dMulA)) (dVar 8) dSub)) aNil))) aNil) (on1 dRepr))) dNeS) (sCons (sRetB (rV (dC (.bl false))))
  sNil) sNil)
  sNil)))
  (sCons (sIf (bAnd (cBin (dVar 3) (dC (.int 60)) dLe) (cBin (vR (rCall (aCons (dVar 4) aNil) (on1 dRepr))) (vR (rCall (aCons (vR (dCall (aCons (dVar 2) (aCons (dVar 3) aNil)) F__law_least)) aNil) (on1 dRepr))) dNeS)) (sCons (sRetB (rV (dC (.bl false))))
  sNil) sNil)
  (sCons (sOwnB 11 (rCall (aCons (dVar 4) aNil) (on1 dList)))
  (sCons (sRev 4)
  (sCons (sRetB (rV (bV (cBin (vR (dCallK aNil (aCons (dVar 0) aNil) [0] F_leg_points)) (dVar 11) dEq))))
  sNil))))))))
def F__law_says : DF := dfS 2
  (sCons (sRetB (rIf (bTru (dVar 1)) (rV (bV (cBin (dVar 0) (dC (.bl true)) dIsB))) (rV (bV (cBin (dVar 0) (dC (.bl false)) dIsB)))))
  sNil)
def F_is_point : DF := dfS 2
  (sCons (sExpr (vR (dCall (aCons (dVar 0) aNil) F_need_pair)))
  (sCons (sRetB (dCall (aCons (dVar 0) (aCons (dVar 1) aNil)) F_is_point_of))
  sNil))
def F__law_is_number : DF := dfS 1
  (sCons (sRetB (rV (vAnd (vR (rCall (aCons (dVar 0) (aCons (dC (.typ "int")) aNil)) (on2 (dIsi (kt Cs))))) (vNot (vR (rCall (aCons (dVar 0) (aCons (dC (.typ "bool")) aNil)) (on2 (dIsi (kt Cs)))))))))
  sNil)
def F__law_sums_right : DF := dfS 18
  (sCons (sAsgN (dVar 1) (gTup 2 (gCons (gN 3) (gCons (gN 4) gNil))))
  (sCons (sSetN 5 (vR (dCall (aCons (dVar 1) aNil) F_leg_points)))
  (sCons (sFor (iArg (aCons (dC (.int 4)) aNil) rng1) (gN 6) (sCons (sSetN 7 (vR (dCall (aCons (dVar 0) (aCons (vR (rCall (aCons (dVar 5) aNil) (on1 dLen))) aNil)) F__law_take)))
  (sCons (sSetN 8 (vR (dCall (aCons (dVar 0) (aCons (vR (dLst (aCons (dC (.int 1)) (aCons (dC (.int 2)) (aCons (dC (.int 5)) (aCons (vR (rBin (dC (.int 10)) (dC (.int 30)) dPw)) aNil)))))) aNil)) F__law_pick)))
  (sCons (sParN 9 10 false false (rBin (dC (.int 1)) (vR (dCall (aCons (dVar 0) (aCons (dVar 8) aNil)) F__law_take)) dAdd) (rIf (cBin (dVar 7) (vR (rBin (vR (rCall (aCons (dVar 5) aNil) (on1 dLen))) (dC (.int 1)) dSub)) dEq) (rV (dC (.int 0))) (dCall (aCons (dVar 0) (aCons (vR (rBin (dVar 8) (dC (.int 1)) dAdd)) aNil)) F__law_take)))
  (sCons (sSetN 11 (vR (rIf (cBin (dVar 7) (vR (rBin (vR (rCall (aCons (dVar 5) aNil) (on1 dLen))) (dC (.int 1)) dSub)) dLt) (rBin (dVar 5) (vR (rBin (dVar 7) (dC (.int 1)) dAdd)) dIx) (rV (dTup (aCons (dC (.int 0)) (aCons (dC (.int 0)) aNil)))))))
  (sCons (sSetN 12 (dTup (aCons (vR (rBin (vR (rBin (dVar 9) (vR (rBin (vR (rBin (dVar 5) (dVar 7) dIx)) (dC (.int 0)) dIx)) dMulA)) (vR (rBin (dVar 10) (vR (rBin (dVar 11) (dC (.int 0)) dIx)) dMulA)) dAdd)) (aCons (vR (rBin (vR (rBin (dVar 9) (vR (rBin (vR (rBin (dVar 5) (dVar 7) dIx)) (dC (.int 1)) dIx)) dMulA)) (vR (rBin (dVar 10) (vR (rBin (dVar 11) (dC (.int 1)) dIx)) dMulA)) dAdd)) aNil))))
  (sCons (sIf (bOr (cBin (vR (rCall (aCons (vR (dLst (aCons (vR (dCall (aCons (dVar 1) (aCons (dVar 12) aNil)) F_point_sum)) (aCons (vR (dCallK aNil (aCons (dVar 12) (aCons (dVar 1) aNil)) [1, 0] F_point_sum)) aNil)))) aNil) (on1 dRepr))) (vR (rCall (aCons (vR (rBin (vR (dLst (aCons (dTup (aCons (dVar 7) (aCons (dVar 9) (aCons (dVar 10) aNil)))) aNil))) (dC (.int 2)) dMulA)) aNil) (on1 dRepr))) dNeS) (bNot (bTru (vR (dCall (aCons (vR (dCall (aCons (dVar 1) (aCons (dVar 12) aNil)) F_is_point)) (aCons (dC (.bl true)) aNil)) F__law_says))))) (sCons (sRetB (rV (dC (.bl false))))
  sNil) sNil)
  (sCons (sSetN 13 (vR (dCall (aCons (dVar 0) (aCons (vR (dCall (aCons (dVar 0) (aCons (vR (dLst (aCons (dC (.int 1)) (aCons (dC (.int 3)) (aCons (vR (rBin (dVar 4) (dC (.int 1)) dAdd)) (aCons (vR (rBin (dC (.int 10)) (dC (.int 30)) dPw)) aNil)))))) aNil)) F__law_pick)) aNil)) F__law_take)))
  (sCons (sSetN 14 (dTup (aCons (dVar 13) (aCons (vR (rBin (vR (rBin (vR (rCall (aCons (vR (rBin (dVar 3) (dVar 13) dMulA)) aNil) (on1 dInt))) (vR (rCall (aCons (dVar 4) aNil) (on1 dInt))) dMd)) (vR (rBin (dVar 4) (vR (dCall (aCons (dVar 0) (aCons (vR (dLst (aCons (dC (.int 0)) (aCons (dC (.int 0)) (aCons (dC (.int 1)) (aCons (vR (dCall (aCons (dVar 0) (aCons (vR (rBin (dC (.int 10)) (dC (.int 6)) dPw)) aNil)) F__law_take)) aNil)))))) aNil)) F__law_pick)) dMulA)) dAdd)) aNil))))
  (sCons (sIf (cBin (dVar 14) (dTup (aCons (dC (.int 0)) (aCons (dC (.int 0)) aNil))) dNe) (sCons (sSetN 15 (vR (dCall (aCons (dVar 1) (aCons (dVar 14) aNil)) F_point_sum)))
  (sCons (sIf (bOr (bNot (bTru (vR (rCall (aCons (dVar 15) (aCons (dC (.typ "tuple")) aNil)) (on2 (dIsi (kt Cs))))))) (bOr (cBin (vR (rCall (aCons (dVar 15) aNil) (on1 dLen))) (dC (.int 3)) dNe) (cBin (vR (rComp (iOf (dVar 15)) (gN 17) (bNot (bTru (vR (dCall (aCons (dVar 17) aNil) F__law_is_number)))) (dC (.int 1)) [16, 17])) (vR (dLst aNil)) dNe))) (sCons (sRetB (rV (dC (.bl false))))
  sNil) sNil)
  (sCons (sAsgN (dVar 15) (gTup 3 (gCons (gN 7) (gCons (gN 9) (gCons (gN 10) gNil)))))
  (sCons (sIf (bOr (bNot (cChain (dC (.int 0)) (dVar 7) (vR (rCall (aCons (dVar 5) aNil) (on1 dLen))) dLe dLt)) (bOr (cBin (dVar 9) (dC (.int 1)) dLt) (bOr (cBin (dVar 10) (dC (.int 0)) dLt) (bAnd (cBin (dVar 7) (vR (rBin (vR (rCall (aCons (dVar 5) aNil) (on1 dLen))) (dC (.int 1)) dSub)) dEq) (cBin (dVar 10) (dC (.int 0)) dNe))))) (sCons (sRetB (rV (dC (.bl false))))
  sNil) sNil)
  (sCons (sSetN 11 (vR (rIf (cBin (dVar 7) (vR (rBin (vR (rCall (aCons (dVar 5) aNil) (on1 dLen))) (dC (.int 1)) dSub)) dLt) (rBin (dVar 5) (vR (rBin (dVar 7) (dC (.int 1)) dAdd)) dIx) (rV (dTup (aCons (dC (.int 0)) (aCons (dC (.int 0)) aNil)))))))
  (sCons (sIf (cBin (dVar 14) (dTup (aCons (vR (rBin (vR (rBin (dVar 9) (vR (rBin (vR (rBin (dVar 5) (dVar 7) dIx)) (dC (.int 0)) dIx)) dMulA)) (vR (rBin (dVar 10) (vR (rBin (dVar 11) (dC (.int 0)) dIx)) dMulA)) dAdd)) (aCons (vR (rBin (vR (rBin (dVar 9) (vR (rBin (vR (rBin (dVar 5) (dVar 7) dIx)) (dC (.int 1)) dIx)) dMulA)) (vR (rBin (dVar 10) (vR (rBin (dVar 11) (dC (.int 1)) dIx)) dMulA)) dAdd)) aNil))) dNe) (sCons (sRetB (rV (dC (.bl false))))
  sNil) sNil)
  sNil)))))) sNil)
  sNil))))))))))
  (sCons (sRetB (rV (dC (.bl true))))
  sNil))))
def F__law_refused : DF := dfL 11 fun tk =>
  (sCons (sAsgN (dVar 1) (gTup 2 (gCons (gN 3) (gCons (gN 4) gNil))))
  (sCons (sSetN 5 (vR (dCall (aCons (dVar 0) (aCons (vR (rBin (vR (rBin (dC (.int 2)) (dVar 4) dMulA)) (dC (.int 1)) dAdd)) aNil)) F__law_take)))
  (sCons (sSetN 6 (vR (rBin (vR (rCall (aCons (vR (rBin (dVar 3) (dVar 5) dMulA)) aNil) (on1 dInt))) (vR (rCall (aCons (dVar 4) aNil) (on1 dInt))) dMd)))
  (sCons (sSetN 7 (vR (dLst (aCons (dC .non) (aCons (dC (.int 5)) (aCons (dTup (aCons (dC (.int 0)) (aCons (dC (.int 0)) aNil))) (aCons (vR (dLst (aCons (dC (.int 0)) (aCons (dVar 4) aNil)))) (aCons (dTup (aCons (dVar 5) (aCons (vR (rBin (vR (rBin (dC (.int 0)) (dVar 4) dSub)) (dVar 6) dSub)) aNil))) (aCons (dTup (aCons (vR (rBin (dC (.int 0)) (dVar 4) dSub)) (aCons (dC (.int 0)) aNil))) (aCons (dTup (aCons (dVar 5) aNil)) (aCons (dTup (aCons (dVar 5) (aCons (dVar 6) (aCons (dC (.int 0)) aNil)))) (aCons (dTup (aCons (dC (.bl true)) (aCons (vR (rBin (dVar 6) (dVar 4) dAdd)) aNil))) (aCons (dTup (aCons (dC (.int 0)) (aCons (dC (.bl true)) aNil))) (aCons (dC (.str "01")) aNil))))))))))))))
  (sCons (sSetN 7 (vR (rBin (dVar 7) (vR (rIf (cBin (dVar 4) (dC (.int 1)) dGt) (dLst (aCons (dTup (aCons (dVar 5) (aCons (vR (rBin (vR (rBin (dVar 6) (dVar 4) dAdd)) (dC (.int 1)) dAdd)) aNil))) (aCons (dTup (aCons (vR (rBin (dVar 5) (dC (.int 1)) dAdd)) (aCons (vR (rIf (cBin (dVar 3) (dC (.int 1)) dNe) (rBin (vR (rBin (dVar 6) (dVar 4) dAdd)) (dC (.int 1)) dAdd) (rBin (dVar 6) (dVar 4) dAdd))) aNil))) aNil))) (dLst aNil))) dAdd)))
  (sCons (sSetN 10 (vR (dCall (aCons (dVar 0) (aCons (dVar 7) aNil)) F__law_pick)))
  (sCons (sIf (bOr (bNot (bTru (vR (dCall (aCons (vR (dCall (aCons (dVar 1) (aCons (dVar 10) aNil)) F_is_point)) (aCons (dC (.bl false)) aNil)) F__law_says)))) (bNot (bTru (vR (dCall (aCons (vR (dCallK aNil (aCons (dVar 10) (aCons (dVar 1) aNil)) [1, 0] F_is_point)) (aCons (dC (.bl false)) aNil)) F__law_says))))) (sCons (sRetB (rV (dC (.bl false))))
  sNil) sNil)
  (sCons (sIf (cBin (vR (dCall (aCons (vR (dCaught Xs tk [(0, (vR (dCall (aCons (dVar 1) (aCons (dVar 10) aNil)) F_point_sum)))] (dC (.lam 0 tk)))) aNil) F__law_word)) (vR (rIf (bTru (dVar 2)) (rV (dC (.str "many 400"))) (rV (dC (.str "point"))))) dNe) (sCons (sRetB (rV (dC (.bl false))))
  sNil) sNil)
  (sCons (sSetN 9 (vR (dCall (aCons (dVar 0) (aCons (vR (dLst (aCons (dC .non) (aCons (dTup (aCons (dC (.int 2)) (aCons (dC (.int 4)) aNil))) (aCons (dTup (aCons (dC (.int 0)) (aCons (dC (.int 2)) aNil))) (aCons (dTup (aCons (dC (.int 3)) (aCons (dC (.int 2)) aNil))) (aCons (vR (dLst (aCons (dC (.int 1)) (aCons (dC (.int 2)) aNil)))) (aCons (dTup (aCons (dC (.int 1)) (aCons (vR (rBin (vR (rBin (dC (.int 10)) (dC (.int 30)) dPw)) (dC (.int 1)) dAdd)) aNil))) (aCons (dTup (aCons (dC (.bl true)) (aCons (dC (.int 2)) aNil))) aNil))))))))) aNil)) F__law_pick)))
  (sCons (sFor (iOf (vR (dLst (aCons (dC (.lam 3 tk)) (aCons (dC (.lam 2 tk)) (aCons (dC (.lam 1 tk)) aNil)))))) (gN 8) (sCons (sIf (cBin (vR (dCall (aCons (vR (dCaught Xs tk [(3, (vR (dCall (aCons (dVar 9) (aCons (dTup (aCons (dC (.int 0)) (aCons (dC (.int 1)) aNil))) aNil)) F_is_point))), (2, (vR (dCall (aCons (dVar 9) aNil) F_leg_points))), (1, (vR (dCall (aCons (dVar 9) (aCons (dC .non) aNil)) F_point_sum)))] (dVar 8))) aNil) F__law_word)) (dC (.str "pair")) dNe) (sCons (sRetB (rV (dC (.bl false))))
  sNil) sNil)
  sNil))
  (sCons (sRetB (rV (dC (.bl true))))
  sNil)))))))))))
def b_law (tk : List (Str × Addr)) : DS :=
  (sCons (sFor (iArg (aCons (vR (rBin (dC (.int 2)) (vR (rCall (aCons (vR (rCall (aCons (dVar 0) aNil) (on1 dLen))) (aCons (dC (.int 6)) aNil)) (on2 (i2 iMin)))) dAdd)) aNil) rng1) (gN 2) (sCons (sSetN 4 (vR (dCall (aCons (dVar 1) aNil) F__law_some_pair)))
  (sCons (sIf (cBin (vR (rBin (dVar 4) (dC (.int 1)) dIx)) (vR (rBin (dC (.int 10)) (dC (.int 30)) dPw)) dGt) (sCons (sSetN 4 (dTup (aCons (dC (.int 3)) (aCons (dC (.int 7)) aNil))))
  sNil) sNil)
  (sCons (sSetN 3 (vR (dCall (aCons (vR (rBin (dVar 4) (dC (.int 0)) dIx)) (aCons (vR (rBin (dVar 4) (dC (.int 1)) dIx)) (aCons (dC (.int 400)) aNil))) F__law_leg)))
  (sCons (sIf (cBin (dVar 3) (dC .non) dIsN) (sCons (sIf (cBin (vR (dCall (aCons (vR (dCaught Xs tk [(4, (vR (dCall (aCons (dVar 4) aNil) F_leg_points)))] (dC (.lam 4 tk)))) aNil) F__law_word)) (dC (.str "many 400")) dNe) (sCons (sRetB (rV (dC (.bl false))))
  sNil) sNil)
  (sCons (sIf (cBin (vR (dCall (aCons (vR (dCaught Xs tk [(5, (vR (dCall (aCons (dVar 4) (aCons (dTup (aCons (dC (.int 0)) (aCons (vR (rBin (dVar 4) (dC (.int 1)) dIx)) aNil))) aNil)) F_point_sum)))] (dC (.lam 5 tk)))) aNil) F__law_word)) (dC (.str "many 400")) dNe) (sCons (sRetB (rV (dC (.bl false))))
  sNil) sNil)
  sNil)) (sCons (sIf (bOr (bNot (bTru (vR (dCall (aCons (dVar 4) (aCons (dVar 3) aNil)) F__law_list_right)))) (bNot (bTru (vR (dCall (aCons (dVar 1) (aCons (dVar 4) (aCons (dVar 3) aNil))) F__law_sums_right))))) (sCons (sRetB (rV (dC (.bl false))))
  sNil) sNil)
  sNil))
  (sCons (sIf (bNot (bTru (vR (dCall (aCons (dVar 1) (aCons (dVar 4) (aCons (bV (cBin (dVar 3) (dC .non) dIsN)) aNil))) F__law_refused)))) (sCons (sRetB (rV (dC (.bl false))))
  sNil) sNil)
  sNil))))))
  (sCons (sRetB (rV (vAnd (bV (cBin (vR (rCall (aCons (vR (dCall (aCons (dTup (aCons (dC (.int 3)) (aCons (dC (.int 7)) aNil))) aNil) F_leg_points)) aNil) (on1 dRepr))) (vR (rCall (aCons (vR (dLst (aCons (dTup (aCons (dC (.int 0)) (aCons (dC (.int 7)) aNil))) (aCons (dTup (aCons (dC (.int 1)) (aCons (dC (.int 3)) aNil))) (aCons (dTup (aCons (dC (.int 3)) (aCons (dC (.int 2)) aNil))) (aCons (dTup (aCons (dC (.int 5)) (aCons (dC (.int 1)) aNil))) (aCons (dTup (aCons (dC (.int 7)) (aCons (dC (.int 0)) aNil))) aNil))))))) aNil) (on1 dRepr))) dEqS)) (bV (cBin (vR (dCall (aCons (dTup (aCons (dC (.int 3)) (aCons (dC (.int 7)) aNil))) (aCons (dTup (aCons (dC (.int 4)) (aCons (dC (.int 5)) aNil))) aNil)) F_point_sum)) (dTup (aCons (dC (.int 1)) (aCons (dC (.int 1)) (aCons (dC (.int 1)) aNil)))) dEq)))))
  sNil))
section
variable {P : Program} {w : World} {K : PySem.W.Frag} {mg : Str → Option Value} {base : Heap} {ca : Str → Addr} {Tt : List (Addr × Str)} {Pd : DrawP}
theorem sc__law_begun : FnScope ["script", "large", ".0", "cell"] ["script"] (defScope st__law_begun) := ⟨rfl, rfl, rfl, by decide +kernel, rfl, by decide +kernel, by decide +kernel⟩
theorem d__law_begun (T : Txt P K mg base ca Tt) (ok : BegOk 3 b1_law_begun b2_law_begun) {fd : FuncData} (fu : Fun K "_law_begun" "_law_begun" st__law_begun (ca "_law_begun") fd) : FnD P w K mg base 1 (ca "_law_begun") fd ["script"] (spB K ca (Lm Tt) false) :=
  begun_gen0 rfl fu sc__law_begun rfl ok rfl (by first | exact .inl rfl | exact .inr (.inl rfl)) rfl fun cdv A outer s H E m => ⟨(ss_comp (i := 1) m (ei_seq (ev_var (i := 0))) (own := [(".0", 2), ("cell", 3)]) rfl (fun s H C cl fp => (gt_name (i := 3) (m.blk).nd)) (fun s H C cl fp => (ets_one (eb_ge (er_abs (m.blk) (by exact T.b_abs) (ea_cons (ev_var (i := 3)) ea_nil)).v (er_pw ev_int ev_int).v))) (fun s H C cl fp => (er_sub (er_abs (m.blk) (by exact T.b_abs) (ea_cons (ev_var (i := 3)) ea_nil)).v (er_pw ev_int ev_int).v).v) (fun h => ownN_ok (i := 1) h)), (er_comp m (ei_seq (ev_var (i := 0))) (own := [(".0", 2), ("cell", 3)]) rfl (fun s H C cl fp => (gt_name (i := 3) (m.blk).nd)) (fun s H C cl fp => ets_nil) (fun s H C cl fp => (er_int (m.blk) (by exact T.b_int) (ea_cons (er_abs (m.blk) (by exact T.b_abs) (ea_cons (ev_var (i := 3)) ea_nil)).v ea_nil)).v))⟩
theorem sc__law_mixed : FnScope ["draw", "turn", "found", "great", "blend", "cell"] ["draw"] (defScope st__law_mixed) := ⟨rfl, rfl, rfl, by decide +kernel, rfl, by decide +kernel, by decide +kernel⟩
theorem d__law_mixed (T : Txt P K mg base ca Tt)  : Df P w K mg base (cD K ca (Lm Tt) Pd) 1 "_law_mixed" st__law_mixed ["draw"] F__law_mixed :=
  df_gen (N := ["draw", "turn", "found", "great", "blend", "cell"]) T.g__law_mixed T.f__law_mixed sc__law_mixed ⟨rfl, by decide, by decide⟩ fun cdv A outer s H E m =>
  (sb_cons (ss_drPut (i := 0) (by simp) m.hu1 (pv 0) (er_add (ev_drI (i := 0) (by simp) m.hu1 (pv 0)) ev_int).v)
  (sb_cons (ss_parN (i := 1) (l := 2) (oi := false) (ol := false) m (er_int m (by exact T.b_int) (ea_cons (ev_drI (i := 0) (by simp) m.hu1 (pv 0)) ea_nil)) (ev_int).r)
  (sb_cons (ss_for m (ei_seq (er_lst (ea_cons ev_int (ea_cons ev_int (ea_cons ev_int (ea_cons ev_int ea_nil))))).v) (gt_name (i := 3) m.nd) (sb_cons (ss_setN (i := 4) m (er_md (er_add (er_mulA (ev_var (i := 1)) ev_int).v (er_fd (ev_var (i := 3)) ev_int).v).v (ev_var (i := 3))).v)
  (sb_cons (ss_for m (ei_dr (i := 0) m.hu1 (pv 0)) (gt_name (i := 5) m.nd) (sb_cons (ss_setN (i := 4) m (er_md (er_add (er_add (er_mulA (ev_var (i := 4)) ev_int).v (er_int m (by exact T.b_int) (ea_cons (ev_var (i := 5)) ea_nil)).v).v ev_int).v (ev_var (i := 3))).v)
  sb_nil))
  (sb_cons (ss_setN (i := 2) m (er_add (er_mulA (ev_var (i := 2)) ev_int).v (er_md (er_pw (ev_var (i := 4)) ev_int).v (ev_var (i := 3))).v).v)
  sb_nil))))
  (sb_cons (ss_retB (ev_var (i := 2)).r)
  sb_nil))))
theorem sc__law_take : FnScope ["draw", "amount", "found"] ["draw", "amount"] (defScope st__law_take) := ⟨rfl, rfl, rfl, by decide +kernel, rfl, by decide +kernel, by decide +kernel⟩
theorem d__law_take (T : Txt P K mg base ca Tt) (d__law_mixed : Df P w K mg base (cD K ca (Lm Tt) Pd) 1 "_law_mixed" st__law_mixed ["draw"] F__law_mixed) : Df P w K mg base (cD K ca (Lm Tt) Pd) 2 "_law_take" st__law_take ["draw", "amount"] F__law_take :=
  df_gen (N := ["draw", "amount", "found"]) T.g__law_take T.f__law_take sc__law_take ⟨rfl, by decide, by decide⟩ fun cdv A outer s H E m =>
  (sb_cons (ss_if (eb_eq m.hu (ev_drI (i := 0) (by simp) m.hu1 (pv 0)) ev_int) (sb_cons (ss_drPut (i := 0) (by simp) m.hu1 (pv 0) (er_drNext (i := 0) m.hu (fun _ => pv 0) (er_call m d__law_mixed (by decide) (by rfl) (fun _ _ _ _ _ _ us ws h1 h2 => match us, ws, h1, h2 with | [_], [], _, _ => rfl) (ea_cons (ev_var (i := 0)) ea_nil))).v)
  sb_nil) sb_nil)
  (sb_cons (ss_setN (i := 2) m (er_md (er_int m (by exact T.b_int) (ea_cons (ev_drI (i := 0) (by simp) m.hu1 (pv 0)) ea_nil)).v (ev_var (i := 1))).v)
  (sb_cons (ss_drPut (i := 0) (by simp) m.hu1 (pv 0) (er_fd (er_int m (by exact T.b_int) (ea_cons (ev_drI (i := 0) (by simp) m.hu1 (pv 0)) ea_nil)).v (ev_var (i := 1))).v)
  (sb_cons (ss_retB (ev_var (i := 2)).r)
  sb_nil))))
theorem sc__law_pick : FnScope ["draw", "some"] ["draw", "some"] (defScope st__law_pick) := ⟨rfl, rfl, rfl, by decide +kernel, rfl, by decide +kernel, by decide +kernel⟩
theorem d__law_pick (T : Txt P K mg base ca Tt) (d__law_take : Df P w K mg base (cD K ca (Lm Tt) Pd) 2 "_law_take" st__law_take ["draw", "amount"] F__law_take) : Df P w K mg base (cD K ca (Lm Tt) Pd) 3 "_law_pick" st__law_pick ["draw", "some"] F__law_pick :=
  df_gen (N := ["draw", "some"]) T.g__law_pick T.f__law_pick sc__law_pick ⟨rfl, by decide, by decide⟩ fun cdv A outer s H E m =>
  (sb_cons (ss_retB (er_ix (ev_var (i := 1)) (er_call m d__law_take (by decide) (by rfl) (fun _ _ _ _ _ _ us ws h1 h2 => match us, ws, h1, h2 with | [_, _], [], _, _ => rfl) (ea_cons (ev_var (i := 0)) (ea_cons (er_len (by rfl) (by exact T.b_len) (ea_cons (ev_var (i := 1)) ea_nil)).v ea_nil))).v))
  sb_nil)
theorem sc__law_common : FnScope ["one", "other"] ["one", "other"] (defScope st__law_common) := ⟨rfl, rfl, rfl, by decide +kernel, rfl, by decide +kernel, by decide +kernel⟩
theorem d__law_common (T : Txt P K mg base ca Tt)  : Df P w K mg base (cD K ca (Lm Tt) Pd) 1 "_law_common" st__law_common ["one", "other"] F__law_common :=
  df_gen (N := ["one", "other"]) T.g__law_common T.f__law_common sc__law_common ⟨rfl, by decide, by decide⟩ fun cdv A outer s H E m =>
  (sb_cons (ss_parN (i := 0) (l := 1) (oi := false) (ol := false) m (er_abs m (by exact T.b_abs) (ea_cons (er_int m (by exact T.b_int) (ea_cons (ev_var (i := 0)) ea_nil)).v ea_nil)) (er_abs m (by exact T.b_abs) (ea_cons (er_int m (by exact T.b_int) (ea_cons (ev_var (i := 1)) ea_nil)).v ea_nil)))
  (sb_cons (ss_while m (eb_ne m.hu (ev_var (i := 1)) ev_int) (sb_cons (ss_parN (i := 0) (l := 1) (oi := false) (ol := false) m (ev_var (i := 1)).r (er_md (er_int m (by exact T.b_int) (ea_cons (ev_var (i := 0)) ea_nil)).v (er_int m (by exact T.b_int) (ea_cons (ev_var (i := 1)) ea_nil)).v))
  sb_nil))
  (sb_cons (ss_retB (ev_var (i := 0)).r)
  sb_nil)))
theorem sc__law_free : FnScope ["part", ".0", "w"] ["part"] (defScope st__law_free) := ⟨rfl, rfl, rfl, by decide +kernel, rfl, by decide +kernel, by decide +kernel⟩
theorem d__law_free (T : Txt P K mg base ca Tt) (d__law_common : Df P w K mg base (cD K ca (Lm Tt) Pd) 1 "_law_common" st__law_common ["one", "other"] F__law_common) : Df P w K mg base (cD K ca (Lm Tt) Pd) 2 "_law_free" st__law_free ["part"] F__law_free :=
  df_gen (N := ["part", ".0", "w"]) T.g__law_free T.f__law_free sc__law_free ⟨rfl, by decide, by decide⟩ fun cdv A outer s H E m =>
  (sb_cons (ss_retB (er_comp m (ei_rng2 (by rfl) (by exact T.b_range) (ea_cons ev_int (ea_cons (ev_var (i := 0)) ea_nil))) (own := [(".0", 1), ("w", 2)]) rfl (fun s H C cl fp => (gt_name (i := 2) (m.blk).nd)) (fun s H C cl fp => (ets_one (eb_eq (m.blk).hu (er_call (m.blk) d__law_common (by decide) (by rfl) (fun _ _ _ _ _ _ us ws h1 h2 => match us, ws, h1, h2 with | [_, _], [], _, _ => rfl) (ea_cons (ev_var (i := 2)) (ea_cons (ev_var (i := 0)) ea_nil))).v ev_int))) (fun s H C cl fp => (ev_var (i := 2)))))
  sb_nil)
theorem sc__law_pair : FnScope ["draw", "most", "part"] ["draw", "most"] (defScope st__law_pair) := ⟨rfl, rfl, rfl, by decide +kernel, rfl, by decide +kernel, by decide +kernel⟩
theorem d__law_pair (T : Txt P K mg base ca Tt) (d__law_free : Df P w K mg base (cD K ca (Lm Tt) Pd) 2 "_law_free" st__law_free ["part"] F__law_free) (d__law_pick : Df P w K mg base (cD K ca (Lm Tt) Pd) 3 "_law_pick" st__law_pick ["draw", "some"] F__law_pick) (d__law_take : Df P w K mg base (cD K ca (Lm Tt) Pd) 2 "_law_take" st__law_take ["draw", "amount"] F__law_take) : Df P w K mg base (cD K ca (Lm Tt) Pd) 4 "_law_pair" st__law_pair ["draw", "most"] F__law_pair :=
  df_gen (N := ["draw", "most", "part"]) T.g__law_pair T.f__law_pair sc__law_pair ⟨rfl, by decide, by decide⟩ fun cdv A outer s H E m =>
  (sb_cons (ss_setN (i := 2) m (er_call m d__law_pick (by decide) (by rfl) (fun _ _ _ _ _ _ us ws h1 h2 => match us, ws, h1, h2 with | [_, _], [], _, _ => rfl) (ea_cons (ev_var (i := 0)) (ea_cons (er_lst (ea_cons ev_int (ea_cons ev_int (ea_cons ev_int (ea_cons ev_int (ea_cons ev_int (ea_cons ev_int (ea_cons (er_add ev_int (er_call m d__law_take (by decide) (by rfl) (fun _ _ _ _ _ _ us ws h1 h2 => match us, ws, h1, h2 with | [_, _], [], _, _ => rfl) (ea_cons (ev_var (i := 0)) (ea_cons (er_sub (ev_var (i := 1)) ev_int).v ea_nil))).v).v (ea_cons (ev_var (i := 1)) (ea_cons (er_sub (ev_var (i := 1)) ev_int).v ea_nil)))))))))).v ea_nil))).v)
  (sb_cons (ss_setN (i := 2) m (er_max2 m (by exact T.b_max) (ea_cons ev_int (ea_cons (er_min2 m (by exact T.b_min) (ea_cons (er_int m (by exact T.b_int) (ea_cons (ev_var (i := 2)) ea_nil)).v (ea_cons (er_int m (by exact T.b_int) (ea_cons (ev_var (i := 1)) ea_nil)).v ea_nil))).v ea_nil))).v)
  (sb_cons (ss_retB (ev_tup (ea_cons (er_call m d__law_pick (by decide) (by rfl) (fun _ _ _ _ _ _ us ws h1 h2 => match us, ws, h1, h2 with | [_, _], [], _, _ => rfl) (ea_cons (ev_var (i := 0)) (ea_cons (er_call m d__law_free (by decide) (by rfl) (fun _ _ _ _ _ _ us ws h1 h2 => match us, ws, h1, h2 with | [_], [], _, _ => rfl) (ea_cons (ev_var (i := 2)) ea_nil)).v ea_nil))).v (ea_cons (ev_var (i := 2)) ea_nil))).r)
  sb_nil)))
theorem sc__law_fraction : FnScope ["leg", "above", "below", "number"] ["leg"] (defScope st__law_fraction) := ⟨rfl, rfl, rfl, by decide +kernel, rfl, by decide +kernel, by decide +kernel⟩
theorem d__law_fraction (T : Txt P K mg base ca Tt)  : Df P w K mg base (cD K ca (Lm Tt) Pd) 1 "_law_fraction" st__law_fraction ["leg"] F__law_fraction :=
  df_gen (N := ["leg", "above", "below", "number"]) T.g__law_fraction T.f__law_fraction sc__law_fraction ⟨rfl, by decide, by decide⟩ fun cdv A outer s H E m =>
  (sb_cons (ss_asgN (ev_tup (ea_cons ev_int (ea_cons ev_int ea_nil))) (gt_tup m.calm (gts_cons (gt_name (i := 1) m.nd) (gts_cons (gt_name (i := 2) m.nd) gts_nil))))
  (sb_cons (ss_for m (ei_seq (er_rev (ev_var (i := 0)) (eo_some (ev_neg ev_int))).v) (gt_name (i := 3) m.nd) (sb_cons (ss_parN (i := 1) (l := 2) (oi := false) (ol := false) m (ev_var (i := 2)).r (er_sub (er_mulA (ev_var (i := 3)) (ev_var (i := 2))).v (ev_var (i := 1))))
  sb_nil))
  (sb_cons (ss_retB (ev_tup (ea_cons (ev_var (i := 1)) (ea_cons (ev_var (i := 2)) ea_nil))).r)
  sb_nil)))
theorem sc__law_some_pair : FnScope ["draw", "way", "leg", ".0", "lap"] ["draw"] (defScope st__law_some_pair) := ⟨rfl, rfl, rfl, by decide +kernel, rfl, by decide +kernel, by decide +kernel⟩
theorem d__law_some_pair (T : Txt P K mg base ca Tt) (d__law_fraction : Df P w K mg base (cD K ca (Lm Tt) Pd) 1 "_law_fraction" st__law_fraction ["leg"] F__law_fraction) (d__law_pair : Df P w K mg base (cD K ca (Lm Tt) Pd) 4 "_law_pair" st__law_pair ["draw", "most"] F__law_pair) (d__law_pick : Df P w K mg base (cD K ca (Lm Tt) Pd) 3 "_law_pick" st__law_pick ["draw", "some"] F__law_pick) (d__law_take : Df P w K mg base (cD K ca (Lm Tt) Pd) 2 "_law_take" st__law_take ["draw", "amount"] F__law_take) : Df P w K mg base (cD K ca (Lm Tt) Pd) 5 "_law_some_pair" st__law_some_pair ["draw"] F__law_some_pair :=
  df_gen (N := ["draw", "way", "leg", ".0", "lap"]) T.g__law_some_pair T.f__law_some_pair sc__law_some_pair ⟨rfl, by decide, by decide⟩ fun cdv A outer s H E m =>
  (sb_cons (ss_setN (i := 1) m (er_call m d__law_take (by decide) (by rfl) (fun _ _ _ _ _ _ us ws h1 h2 => match us, ws, h1, h2 with | [_, _], [], _, _ => rfl) (ea_cons (ev_var (i := 0)) (ea_cons ev_int ea_nil))).v)
  (sb_cons (ss_if (eb_eq m.hu (ev_var (i := 1)) ev_int) (sb_cons (ss_retB (er_call m d__law_pick (by decide) (by rfl) (fun _ _ _ _ _ _ us ws h1 h2 => match us, ws, h1, h2 with | [_, _], [], _, _ => rfl) (ea_cons (ev_var (i := 0)) (ea_cons (er_lst (ea_cons (ev_tup (ea_cons ev_int (ea_cons ev_int ea_nil))) (ea_cons (ev_tup (ea_cons ev_int (ea_cons ev_int ea_nil))) (ea_cons (ev_tup (ea_cons ev_int (ea_cons ev_int ea_nil))) (ea_cons (ev_tup (ea_cons ev_int (ea_cons (er_pw ev_int ev_int).v ea_nil))) (ea_cons (ev_tup (ea_cons (er_add (er_call m d__law_take (by decide) (by rfl) (fun _ _ _ _ _ _ us ws h1 h2 => match us, ws, h1, h2 with | [_, _], [], _, _ => rfl) (ea_cons (ev_var (i := 0)) (ea_cons ev_int ea_nil))).v ev_int).v (ea_cons ev_int ea_nil))) ea_nil)))))).v ea_nil))))
  sb_nil) sb_nil)
  (sb_cons (ss_if (eb_lt (ev_var (i := 1)) ev_int) (sb_cons (ss_retB (er_call m d__law_pair (by decide) (by rfl) (fun _ _ _ _ _ _ us ws h1 h2 => match us, ws, h1, h2 with | [_, _], [], _, _ => rfl) (ea_cons (ev_var (i := 0)) (ea_cons ev_int ea_nil))))
  sb_nil) sb_nil)
  (sb_cons (ss_comp (i := 2) m (ei_rng1 (by rfl) (by exact T.b_range) (ea_cons (er_add ev_int (er_call m d__law_take (by decide) (by rfl) (fun _ _ _ _ _ _ us ws h1 h2 => match us, ws, h1, h2 with | [_, _], [], _, _ => rfl) (ea_cons (ev_var (i := 0)) (ea_cons ev_int ea_nil))).v).v ea_nil)) (own := [(".0", 3), ("lap", 4)]) rfl (fun s H C cl fp => (gt_name (i := 4) (m.blk).nd)) (fun s H C cl fp => ets_nil) (fun s H C cl fp => (er_add ev_int (er_call (m.blk) d__law_take (by decide) (by rfl) (fun _ _ _ _ _ _ us ws h1 h2 => match us, ws, h1, h2 with | [_, _], [], _, _ => rfl) (ea_cons (ev_var (i := 0)) (ea_cons (er_call (m.blk) d__law_pick (by decide) (by rfl) (fun _ _ _ _ _ _ us ws h1 h2 => match us, ws, h1, h2 with | [_, _], [], _, _ => rfl) (ea_cons (ev_var (i := 0)) (ea_cons (er_lst (ea_cons ev_int (ea_cons ev_int (ea_cons ev_int ea_nil)))).v ea_nil))).v ea_nil))).v).v) (fun h => setR_ok (i := 2) h))
  (sb_cons (ss_retB (er_call m d__law_fraction (by decide) (by rfl) (fun _ _ _ _ _ _ us ws h1 h2 => match us, ws, h1, h2 with | [_], [], _, _ => rfl) (ea_cons (ev_var (i := 2)) ea_nil)))
  sb_nil)))))
theorem sc__law_leg : FnScope ["w", "part", "most", "found", "above", "below", "lap", "number"] ["w", "part", "most"] (defScope st__law_leg) := ⟨rfl, rfl, rfl, by decide +kernel, rfl, by decide +kernel, by decide +kernel⟩
theorem d__law_leg (T : Txt P K mg base ca Tt)  : Df P w K mg base (cD K ca (Lm Tt) Pd) 1 "_law_leg" st__law_leg ["w", "part", "most"] F__law_leg :=
  df_gen (N := ["w", "part", "most", "found", "above", "below", "lap", "number"]) T.g__law_leg T.f__law_leg sc__law_leg ⟨rfl, by decide, by decide⟩ fun cdv A outer s H E m =>
  (sb_cons (ss_par3N (i := 3) (l := 4) (n := 5) (oi := true) (ol := false) (on := false) m (.cons (er_lst ea_nil) (by rfl) (.cons (ev_var (i := 1)).r (by rfl) (.cons (ev_var (i := 0)).r (by rfl) .nil))))
  (sb_cons (ss_for m (ei_rng1 (by rfl) (by exact T.b_range) (ea_cons (er_add (ev_var (i := 2)) ev_int).v ea_nil)) (gt_name (i := 6) m.nd) (sb_cons (ss_if (eb_eq m.hu (ev_var (i := 5)) ev_int) (sb_cons (ss_retO (i := 3))
  sb_nil) sb_nil)
  (sb_cons (ss_setN (i := 7) m (er_fd (er_sub (er_add (ev_var (i := 4)) (ev_var (i := 5))).v ev_int).v (ev_var (i := 5))).v)
  (sb_cons (ss_appN (i := 3) (he := (ev_var (i := 7))))
  (sb_cons (ss_parN (i := 4) (l := 5) (oi := false) (ol := false) m (ev_var (i := 5)).r (er_sub (er_mulA (ev_var (i := 7)) (ev_var (i := 5))).v (ev_var (i := 4))))
  sb_nil)))))
  (sb_cons (ss_retB (ev_non).r)
  sb_nil)))
theorem sc__law_word : FnScope ["error"] ["error"] (defScope st__law_word) := ⟨rfl, rfl, rfl, by decide +kernel, rfl, by decide +kernel, by decide +kernel⟩
theorem d__law_word (T : Txt P K mg base ca Tt)  : Df P w K mg base (cD K ca (Lm Tt) Pd) 1 "_law_word" st__law_word ["error"] F__law_word :=
  df_gen (N := ["error"]) T.g__law_word T.f__law_word sc__law_word ⟨rfl, by decide, by decide⟩ fun cdv A outer s H E m =>
  (sb_cons (ss_if (eb_tru (er_isX m Es_Cs (by exact T.kt) (by exact T.b_isinstance) (ea_cons (ev_var (i := 0)) (ea_cons (ev_own (by rfl) (by exact T.g_TooMany)) ea_nil))).v) (sb_cons (ss_retB (er_add ev_str (er_reprOf m (by exact T.b_repr) (ea_cons (ev_xf (by exact T.xf_most) (ev_var (i := 0))) ea_nil)).v))
  sb_nil) sb_nil)
  (sb_cons (ss_retB (er_if (eb_tru (er_isX m Es_Cs (by exact T.kt) (by exact T.b_isinstance) (ea_cons (ev_var (i := 0)) (ea_cons (ev_own (by rfl) (by exact T.g_BadPair)) ea_nil))).v) (ev_str).r (er_if (eb_tru (er_isX m Es_Cs (by exact T.kt) (by exact T.b_isinstance) (ea_cons (ev_var (i := 0)) (ea_cons (ev_own (by rfl) (by exact T.g_BadPoint)) ea_nil))).v) (ev_str).r (ev_str).r)))
  sb_nil))
theorem sc_is_tuple : FnScope ["thing", "size"] ["thing", "size"] (defScope st_is_tuple) := ⟨rfl, rfl, rfl, by decide +kernel, rfl, by decide +kernel, by decide +kernel⟩
theorem d_is_tuple (T : Txt P K mg base ca Tt)  : Df P w K mg base (cD K ca (Lm Tt) Pd) 1 "is_tuple" st_is_tuple ["thing", "size"] F_is_tuple :=
  df_gen (N := ["thing", "size"]) T.g_is_tuple T.f_is_tuple sc_is_tuple ⟨rfl, by decide, by decide⟩ fun cdv A outer s H E m =>
  (sb_cons (ss_retB (ev_and (er_isi m (by exact T.kt) (by exact T.b_isinstance) (ea_cons (ev_var (i := 0)) (ea_cons (ev_ty (T := "tuple") (by rfl) (by exact T.b_tuple) (by decide +kernel)) ea_nil))).v (ev_one (ev_eq m.hu (er_len (by rfl) (by exact T.b_len) (ea_cons (ev_var (i := 0)) ea_nil)).v (ev_var (i := 1))))).r)
  sb_nil)
theorem sc_is_number : FnScope ["thing"] ["thing"] (defScope st_is_number) := ⟨rfl, rfl, rfl, by decide +kernel, rfl, by decide +kernel, by decide +kernel⟩
theorem d_is_number (T : Txt P K mg base ca Tt)  : Df P w K mg base (cD K ca (Lm Tt) Pd) 1 "is_number" st_is_number ["thing"] F_is_number :=
  df_gen (N := ["thing"]) T.g_is_number T.f_is_number sc_is_number ⟨rfl, by decide, by decide⟩ fun cdv A outer s H E m =>
  (sb_cons (ss_retB (ev_and (er_isi m (by exact T.kt) (by exact T.b_isinstance) (ea_cons (ev_var (i := 0)) (ea_cons (ev_ty (T := "int") (by rfl) (by exact T.b_int) (by decide +kernel)) ea_nil))).v (ev_one (ev_not (er_isi m (by exact T.kt) (by exact T.b_isinstance) (ea_cons (ev_var (i := 0)) (ea_cons (ev_ty (T := "bool") (by rfl) (by exact T.b_bool) (by decide +kernel)) ea_nil))).v))).r)
  sb_nil)
theorem sc_is_pair : FnScope ["thing"] ["thing"] (defScope st_is_pair) := ⟨rfl, rfl, rfl, by decide +kernel, rfl, by decide +kernel, by decide +kernel⟩
theorem d_is_pair (T : Txt P K mg base ca Tt) (d_is_number : Df P w K mg base (cD K ca (Lm Tt) Pd) 1 "is_number" st_is_number ["thing"] F_is_number) (d_is_tuple : Df P w K mg base (cD K ca (Lm Tt) Pd) 1 "is_tuple" st_is_tuple ["thing", "size"] F_is_tuple) : Df P w K mg base (cD K ca (Lm Tt) Pd) 2 "is_pair" st_is_pair ["thing"] F_is_pair :=
  df_gen (N := ["thing"]) T.g_is_pair T.f_is_pair sc_is_pair ⟨rfl, by decide, by decide⟩ fun cdv A outer s H E m =>
  (sb_cons (ss_if (eb_w (ew_or (eb_not (eb_tru (er_call m d_is_tuple (by decide) (by rfl) (fun _ _ _ _ _ _ us ws h1 h2 => match us, ws, h1, h2 with | [_, _], [], _, _ => rfl) (ea_cons (ev_var (i := 0)) (ea_cons ev_int ea_nil))).v)) (ew_or (eb_not (eb_tru (er_call m d_is_number (by decide) (by rfl) (fun _ _ _ _ _ _ us ws h1 h2 => match us, ws, h1, h2 with | [_], [], _, _ => rfl) (ea_cons (er_ix (ev_var (i := 0)) ev_int).v ea_nil)).v)) (ew_or1 (eb_not (eb_tru (er_call m d_is_number (by decide) (by rfl) (fun _ _ _ _ _ _ us ws h1 h2 => match us, ws, h1, h2 with | [_], [], _, _ => rfl) (ea_cons (er_ix (ev_var (i := 0)) ev_int).v ea_nil)).v)))))) (sb_cons (ss_retB (ev_bl).r)
  sb_nil) sb_nil)
  (sb_cons (ss_retB (ev_and (ev_leltle ev_int (er_ix (ev_var (i := 0)) ev_int).v (er_ix (ev_var (i := 0)) ev_int).v (ev_glI (by rfl) (by exact T.i_MOST_BELOW))) (ev_one (ev_eq m.hu (er_gcd m (by exact T.m_gcd) (ea_cons (er_ix (ev_var (i := 0)) ev_int).v (ea_cons (er_ix (ev_var (i := 0)) ev_int).v ea_nil))).v ev_int))).r)
  sb_nil))
theorem sc_need_pair : FnScope ["pair"] ["pair"] (defScope st_need_pair) := ⟨rfl, rfl, rfl, by decide +kernel, rfl, by decide +kernel, by decide +kernel⟩
theorem d_need_pair (T : Txt P K mg base ca Tt) (d_is_pair : Df P w K mg base (cD K ca (Lm Tt) Pd) 2 "is_pair" st_is_pair ["thing"] F_is_pair) : Df P w K mg base (cD K ca (Lm Tt) Pd) 3 "need_pair" st_need_pair ["pair"] F_need_pair :=
  df_gen (N := ["pair"]) T.g_need_pair T.f_need_pair sc_need_pair ⟨rfl, by decide, by decide⟩ fun cdv A outer s H E m =>
  (sb_cons (ss_if (eb_not (eb_tru (er_call m d_is_pair (by decide) (by rfl) (fun _ _ _ _ _ _ us ws h1 h2 => match us, ws, h1, h2 with | [_], [], _, _ => rfl) (ea_cons (ev_var (i := 0)) ea_nil)).v)) (sb_cons (ss_raise0 m (by exact T.x_BadPair))
  sb_nil) sb_nil)
  sb_nil)
theorem sc_leg_numbers : FnScope ["pair", "w", "a", "found", "number"] ["pair"] (defScope st_leg_numbers) := ⟨rfl, rfl, rfl, by decide +kernel, rfl, by decide +kernel, by decide +kernel⟩
theorem d_leg_numbers (T : Txt P K mg base ca Tt)  : Df P w K mg base (cD K ca (Lm Tt) Pd) 2 "leg_numbers" st_leg_numbers ["pair"] F_leg_numbers :=
  df_gen (N := ["pair", "w", "a", "found", "number"]) T.g_leg_numbers T.f_leg_numbers sc_leg_numbers ⟨rfl, by decide, by decide⟩ fun cdv A outer s H E m =>
  (sb_cons (ss_asgN (ev_var (i := 0)) (gt_tup m.calm (gts_cons (gt_name (i := 1) m.nd) (gts_cons (gt_name (i := 2) m.nd) gts_nil))))
  (sb_cons (ss_ownN (i := 3) m (er_lst ea_nil))
  (sb_cons (ss_while m (eb_gt (ev_var (i := 1)) ev_int) (sb_cons (ss_if (eb_eq m.hu (er_len (by rfl) (by exact T.b_len) (ea_cons (ev_var (i := 3)) ea_nil)).v (ev_glI (by rfl) (by exact T.i_MOST_NUMBERS))) (sb_cons (ss_raise1 m (by exact T.x_TooMany) (ea_cons (ev_glI (by rfl) (by exact T.i_MOST_NUMBERS)) ea_nil))
  sb_nil) sb_nil)
  (sb_cons (ss_setN (i := 4) m (er_fd (er_sub (er_add (ev_var (i := 2)) (ev_var (i := 1))).v ev_int).v (ev_var (i := 1))).v)
  (sb_cons (ss_appN (i := 3) (he := (ev_var (i := 4))))
  (sb_cons (ss_parN (i := 1) (l := 2) (oi := false) (ol := false) m (er_sub (er_mulA (ev_var (i := 4)) (ev_var (i := 1))).v (ev_var (i := 2))) (ev_var (i := 1)).r)
  sb_nil)))))
  (sb_cons (ss_retB (er_tupleOf m (by exact T.b_tuple) (ea_cons (ev_var (i := 3)) ea_nil)))
  sb_nil))))
theorem sc_points_of : FnScope ["pair", "w", "a", "found", "number", "x", "y", "i", "j"] ["pair"] (defScope st_points_of) := ⟨rfl, rfl, rfl, by decide +kernel, rfl, by decide +kernel, by decide +kernel⟩
theorem d_points_of (T : Txt P K mg base ca Tt) (d_leg_numbers : Df P w K mg base (cD K ca (Lm Tt) Pd) 2 "leg_numbers" st_leg_numbers ["pair"] F_leg_numbers) : Df P w K mg base (cD K ca (Lm Tt) Pd) 3 "points_of" st_points_of ["pair"] F_points_of :=
  df_gen (N := ["pair", "w", "a", "found", "number", "x", "y", "i", "j"]) T.g_points_of T.f_points_of sc_points_of ⟨rfl, by decide, by decide⟩ fun cdv A outer s H E m =>
  (sb_cons (ss_asgN (ev_var (i := 0)) (gt_tup m.calm (gts_cons (gt_name (i := 1) m.nd) (gts_cons (gt_name (i := 2) m.nd) gts_nil))))
  (sb_cons (ss_ownN (i := 3) m (er_lst (ea_cons (ev_tup (ea_cons ev_int (ea_cons (ev_var (i := 2)) ea_nil))) (ea_cons (ev_tup (ea_cons ev_int (ea_cons (ev_var (i := 1)) ea_nil))) ea_nil))))
  (sb_cons (ss_for m (ei_seq (er_call m d_leg_numbers (by decide) (by rfl) (fun _ _ _ _ _ _ us ws h1 h2 => match us, ws, h1, h2 with | [_], [], _, _ => rfl) (ea_cons (ev_var (i := 0)) ea_nil)).v) (gt_name (i := 4) m.nd) (sb_cons (ss_asgF (er_cut (ev_var (i := 3)) (eo_some (ev_neg ev_int)) eo_none) (gt_tupL m.calm (gts_cons (gt_tup m.calm (gts_cons (gt_name (i := 5) m.nd) (gts_cons (gt_name (i := 6) m.nd) gts_nil))) (gts_cons (gt_tup m.calm (gts_cons (gt_name (i := 7) m.nd) (gts_cons (gt_name (i := 8) m.nd) gts_nil))) gts_nil))))
  (sb_cons (ss_appN (i := 3) (he := (ev_tup (ea_cons (er_sub (er_mulA (ev_var (i := 4)) (ev_var (i := 7))).v (ev_var (i := 5))).v (ea_cons (er_sub (er_mulA (ev_var (i := 4)) (ev_var (i := 8))).v (ev_var (i := 6))).v ea_nil)))))
  sb_nil)))
  (sb_cons (ss_retO (i := 3))
  sb_nil))))
theorem sc_leg_points : FnScope ["pair"] ["pair"] (defScope st_leg_points) := ⟨rfl, rfl, rfl, by decide +kernel, rfl, by decide +kernel, by decide +kernel⟩
theorem d_leg_points (T : Txt P K mg base ca Tt) (d_need_pair : Df P w K mg base (cD K ca (Lm Tt) Pd) 3 "need_pair" st_need_pair ["pair"] F_need_pair) (d_points_of : Df P w K mg base (cD K ca (Lm Tt) Pd) 3 "points_of" st_points_of ["pair"] F_points_of) : Df P w K mg base (cD K ca (Lm Tt) Pd) 4 "leg_points" st_leg_points ["pair"] F_leg_points :=
  df_gen (N := ["pair"]) T.g_leg_points T.f_leg_points sc_leg_points ⟨rfl, by decide, by decide⟩ fun cdv A outer s H E m =>
  (sb_cons (ss_expr (er_call m d_need_pair (by decide) (by rfl) (fun _ _ _ _ _ _ us ws h1 h2 => match us, ws, h1, h2 with | [_], [], _, _ => rfl) (ea_cons (ev_var (i := 0)) ea_nil)).v)
  (sb_cons (ss_retB (er_call m d_points_of (by decide) (by rfl) (fun _ _ _ _ _ _ us ws h1 h2 => match us, ws, h1, h2 with | [_], [], _, _ => rfl) (ea_cons (ev_var (i := 0)) ea_nil)))
  sb_nil))
theorem sc_is_point_of : FnScope ["pair", "thing", "w", "a", "i", "j"] ["pair", "thing"] (defScope st_is_point_of) := ⟨rfl, rfl, rfl, by decide +kernel, rfl, by decide +kernel, by decide +kernel⟩
theorem d_is_point_of (T : Txt P K mg base ca Tt) (d_is_number : Df P w K mg base (cD K ca (Lm Tt) Pd) 1 "is_number" st_is_number ["thing"] F_is_number) (d_is_tuple : Df P w K mg base (cD K ca (Lm Tt) Pd) 1 "is_tuple" st_is_tuple ["thing", "size"] F_is_tuple) : Df P w K mg base (cD K ca (Lm Tt) Pd) 2 "is_point_of" st_is_point_of ["pair", "thing"] F_is_point_of :=
  df_gen (N := ["pair", "thing", "w", "a", "i", "j"]) T.g_is_point_of T.f_is_point_of sc_is_point_of ⟨rfl, by decide, by decide⟩ fun cdv A outer s H E m =>
  (sb_cons (ss_if (eb_w (ew_or (eb_not (eb_tru (er_call m d_is_tuple (by decide) (by rfl) (fun _ _ _ _ _ _ us ws h1 h2 => match us, ws, h1, h2 with | [_, _], [], _, _ => rfl) (ea_cons (ev_var (i := 1)) (ea_cons ev_int ea_nil))).v)) (ew_or (eb_not (eb_tru (er_call m d_is_number (by decide) (by rfl) (fun _ _ _ _ _ _ us ws h1 h2 => match us, ws, h1, h2 with | [_], [], _, _ => rfl) (ea_cons (er_ix (ev_var (i := 1)) ev_int).v ea_nil)).v)) (ew_or1 (eb_not (eb_tru (er_call m d_is_number (by decide) (by rfl) (fun _ _ _ _ _ _ us ws h1 h2 => match us, ws, h1, h2 with | [_], [], _, _ => rfl) (ea_cons (er_ix (ev_var (i := 1)) ev_int).v ea_nil)).v)))))) (sb_cons (ss_retB (ev_bl).r)
  sb_nil) sb_nil)
  (sb_cons (ss_asgN (ev_var (i := 0)) (gt_tup m.calm (gts_cons (gt_name (i := 2) m.nd) (gts_cons (gt_name (i := 3) m.nd) gts_nil))))
  (sb_cons (ss_asgN (ev_var (i := 1)) (gt_tup m.calm (gts_cons (gt_name (i := 4) m.nd) (gts_cons (gt_name (i := 5) m.nd) gts_nil))))
  (sb_cons (ss_retB (ev_and (ev_ge (ev_var (i := 4)) ev_int) (ev_and (ev_ge (ev_var (i := 5)) ev_int) (ev_and (ev_gt (er_add (ev_var (i := 4)) (ev_var (i := 5))).v ev_int) (ev_one (ev_eq m.hu (er_md (er_sub (ev_var (i := 5)) (er_mulA (ev_var (i := 2)) (ev_var (i := 4))).v).v (ev_var (i := 3))).v ev_int))))).r)
  sb_nil))))
theorem sc_point_sum : FnScope ["pair", "point", "points", "a", "i", "j", "t", "x", "y", "next_x", "next_y", "m", "n"] ["pair", "point"] (defScope st_point_sum) := ⟨rfl, rfl, rfl, by decide +kernel, rfl, by decide +kernel, by decide +kernel⟩
theorem d_point_sum (T : Txt P K mg base ca Tt) (d_is_point_of : Df P w K mg base (cD K ca (Lm Tt) Pd) 2 "is_point_of" st_is_point_of ["pair", "thing"] F_is_point_of) (d_need_pair : Df P w K mg base (cD K ca (Lm Tt) Pd) 3 "need_pair" st_need_pair ["pair"] F_need_pair) (d_points_of : Df P w K mg base (cD K ca (Lm Tt) Pd) 3 "points_of" st_points_of ["pair"] F_points_of) : Df P w K mg base (cD K ca (Lm Tt) Pd) 4 "point_sum" st_point_sum ["pair", "point"] F_point_sum :=
  df_gen (N := ["pair", "point", "points", "a", "i", "j", "t", "x", "y", "next_x", "next_y", "m", "n"]) T.g_point_sum T.f_point_sum sc_point_sum ⟨rfl, by decide, by decide⟩ fun cdv A outer s H E m =>
  (sb_cons (ss_expr (er_call m d_need_pair (by decide) (by rfl) (fun _ _ _ _ _ _ us ws h1 h2 => match us, ws, h1, h2 with | [_], [], _, _ => rfl) (ea_cons (ev_var (i := 0)) ea_nil)).v)
  (sb_cons (ss_setN (i := 2) m (er_call m d_points_of (by decide) (by rfl) (fun _ _ _ _ _ _ us ws h1 h2 => match us, ws, h1, h2 with | [_], [], _, _ => rfl) (ea_cons (ev_var (i := 0)) ea_nil)).v)
  (sb_cons (ss_if (eb_not (eb_tru (er_call m d_is_point_of (by decide) (by rfl) (fun _ _ _ _ _ _ us ws h1 h2 => match us, ws, h1, h2 with | [_, _], [], _, _ => rfl) (ea_cons (ev_var (i := 0)) (ea_cons (ev_var (i := 1)) ea_nil))).v)) (sb_cons (ss_raise0 m (by exact T.x_BadPoint))
  sb_nil) sb_nil)
  (sb_cons (ss_setN (i := 3) m (er_ix (ev_var (i := 0)) ev_int).v)
  (sb_cons (ss_asgN (ev_var (i := 1)) (gt_tup m.calm (gts_cons (gt_name (i := 4) m.nd) (gts_cons (gt_name (i := 5) m.nd) gts_nil))))
  (sb_cons (ss_for m (ei_enum (by rfl) (by exact T.b_enumerate) (ea_cons (er_cut (ev_var (i := 2)) eo_none (eo_some (ev_neg ev_int))).v ea_nil)) (gt_tup m.calm (gts_cons (gt_name (i := 6) m.nd) (gts_cons (gt_tup m.calm (gts_cons (gt_name (i := 7) m.nd) (gts_cons (gt_name (i := 8) m.nd) gts_nil))) gts_nil))) (sb_cons (ss_asgN (er_ix (ev_var (i := 2)) (er_add (ev_var (i := 6)) ev_int).v).v (gt_tup m.calm (gts_cons (gt_name (i := 9) m.nd) (gts_cons (gt_name (i := 10) m.nd) gts_nil))))
  (sb_cons (ss_parN (i := 11) (l := 12) (oi := false) (ol := false) m (er_fd (er_sub (er_mulA (ev_var (i := 5)) (ev_var (i := 9))).v (er_mulA (ev_var (i := 4)) (ev_var (i := 10))).v).v (ev_var (i := 3))) (er_fd (er_sub (er_mulA (ev_var (i := 4)) (ev_var (i := 8))).v (er_mulA (ev_var (i := 5)) (ev_var (i := 7))).v).v (ev_var (i := 3))))
  (sb_cons (ss_if (eb_w (ew_and (eb_gt (ev_var (i := 11)) ev_int) (ew_and1 (eb_ge (ev_var (i := 12)) ev_int)))) (sb_cons (ss_retB (ev_tup (ea_cons (ev_var (i := 6)) (ea_cons (ev_var (i := 11)) (ea_cons (ev_var (i := 12)) ea_nil)))).r)
  sb_nil) sb_nil)
  sb_nil))))
  (sb_cons (ss_retB (ev_tup (ea_cons (er_sub (er_len (by rfl) (by exact T.b_len) (ea_cons (ev_var (i := 2)) ea_nil)).v ev_int).v (ea_cons (er_fd (ev_var (i := 4)) (ev_var (i := 3))).v (ea_cons ev_int ea_nil)))).r)
  sb_nil)))))))
theorem sc__law_least : FnScope ["w", "a", "every", ".0", "i", "one", "other"] ["w", "a"] (defScope st__law_least) := ⟨rfl, rfl, rfl, by decide +kernel, rfl, by decide +kernel, by decide +kernel⟩
theorem d__law_least (T : Txt P K mg base ca Tt)  : Df P w K mg base (cD K ca (Lm Tt) Pd) 1 "_law_least" st__law_least ["w", "a"] F__law_least :=
  df_gen (N := ["w", "a", "every", ".0", "i", "one", "other"]) T.g__law_least T.f__law_least sc__law_least ⟨rfl, by decide, by decide⟩ fun cdv A outer s H E m =>
  (sb_cons (ss_setN (i := 2) m (er_add (er_lst (ea_cons (ev_tup (ea_cons ev_int (ea_cons (ev_var (i := 1)) ea_nil))) ea_nil)).v (er_comp m (ei_rng2 (by rfl) (by exact T.b_range) (ea_cons ev_int (ea_cons (er_add (ev_var (i := 1)) ev_int).v ea_nil))) (own := [(".0", 3), ("i", 4)]) rfl (fun s H C cl fp => (gt_name (i := 4) (m.blk).nd)) (fun s H C cl fp => ets_nil) (fun s H C cl fp => (ev_tup (ea_cons (ev_var (i := 4)) (ea_cons (er_md (er_int (m.blk) (by exact T.b_int) (ea_cons (er_mulA (ev_var (i := 0)) (ev_var (i := 4))).v ea_nil)).v (er_int (m.blk) (by exact T.b_int) (ea_cons (ev_var (i := 1)) ea_nil)).v).v ea_nil))))).v).v)
  (sb_cons (ss_retB (er_comp m (ei_seq (ev_var (i := 2))) (own := [(".0", 3), ("one", 5)]) rfl (fun s H C cl fp => (gt_name (i := 5) (m.blk).nd)) (fun s H C cl fp => (ets_one (eb_eq (m.blk).hu (er_comp (m.blk) (ei_seq (ev_var (i := 2))) (own := [(".0", 3), ("other", 6)]) rfl (fun s H C cl fp => (gt_name (i := 6) (m.blk.blk).nd)) (fun s H C cl fp => (ets_one (eb_w (ew_and (eb_ne (m.blk.blk).hu (ev_var (i := 6)) (ev_var (i := 5))) (ew_and (eb_le (er_ix (ev_var (i := 6)) ev_int).v (er_ix (ev_var (i := 5)) ev_int).v) (ew_and1 (eb_le (er_ix (ev_var (i := 6)) ev_int).v (er_ix (ev_var (i := 5)) ev_int).v))))))) (fun s H C cl fp => ev_int)).v (er_lst ea_nil).v))) (fun s H C cl fp => (ev_var (i := 5)))))
  sb_nil))
theorem sc__law_list_right : FnScope ["pair", "due", "w", "a", "told", "at", "number", "i", "j", "x", "y", "kept"] ["pair", "due"] (defScope st__law_list_right) := ⟨rfl, rfl, rfl, by decide +kernel, rfl, by decide +kernel, by decide +kernel⟩
theorem d__law_list_right (T : Txt P K mg base ca Tt) (d__law_least : Df P w K mg base (cD K ca (Lm Tt) Pd) 1 "_law_least" st__law_least ["w", "a"] F__law_least) (d_leg_points : Df P w K mg base (cD K ca (Lm Tt) Pd) 4 "leg_points" st_leg_points ["pair"] F_leg_points) : Df P w K mg base (cD K ca (Lm Tt) Pd) 5 "_law_list_right" st__law_list_right ["pair", "due"] F__law_list_right :=
  df_gen (N := ["pair", "due", "w", "a", "told", "at", "number", "i", "j", "x", "y", "kept"]) T.g__law_list_right T.f__law_list_right sc__law_list_right ⟨rfl, by decide, by decide⟩ fun cdv A outer s H E m =>
  (sb_cons (ss_asgN (ev_var (i := 0)) (gt_tup m.calm (gts_cons (gt_name (i := 2) m.nd) (gts_cons (gt_name (i := 3) m.nd) gts_nil))))
  (sb_cons (ss_ownN (i := 4) m (er_call m d_leg_points (by decide) (by rfl) (fun _ _ _ _ _ _ us ws h1 h2 => match us, ws, h1, h2 with | [_], [], _, _ => rfl) (ea_cons (ev_var (i := 0)) ea_nil)))
  (sb_cons (ss_if (eb_w (ew_or (eb_not (eb_tru (er_isi m (by exact T.kt) (by exact T.b_isinstance) (ea_cons (ev_var (i := 4)) (ea_cons (ev_ty (T := "list") (by rfl) (by exact T.b_list) (by decide +kernel)) ea_nil))).v)) (ew_or (eb_neS (er_reprOf m (by exact T.b_repr) (ea_cons (er_cut (ev_var (i := 4)) eo_none (eo_some ev_int)).v ea_nil)).v (er_reprOf m (by exact T.b_repr) (ea_cons (er_lst (ea_cons (ev_tup (ea_cons ev_int (ea_cons (ev_var (i := 3)) ea_nil))) (ea_cons (ev_tup (ea_cons ev_int (ea_cons (ev_var (i := 2)) ea_nil))) ea_nil))).v ea_nil)).v) (ew_or (eb_ne m.hu (er_len (by rfl) (by exact T.b_len) (ea_cons (ev_var (i := 4)) ea_nil)).v (er_add (er_len (by rfl) (by exact T.b_len) (ea_cons (ev_var (i := 1)) ea_nil)).v ev_int).v) (ew_or1 (eb_ne m.hu (er_ix (ev_var (i := 4)) (ev_neg ev_int)).v (ev_tup (ea_cons (ev_var (i := 3)) (ea_cons ev_int ea_nil))))))))) (sb_cons (ss_retB (ev_bl).r)
  sb_nil) sb_nil)
  (sb_cons (ss_for m (ei_enum (by rfl) (by exact T.b_enumerate) (ea_cons (ev_var (i := 1)) ea_nil)) (gt_tup m.calm (gts_cons (gt_name (i := 5) m.nd) (gts_cons (gt_name (i := 6) m.nd) gts_nil))) (sb_cons (ss_asgB (ev_tup (ea_cons (er_ix (ev_var (i := 4)) (ev_var (i := 5))).v (ea_cons (er_ix (ev_var (i := 4)) (er_add (ev_var (i := 5)) ev_int).v).v ea_nil))) (gt_tup m.calm (gts_cons (gt_tup m.calm (gts_cons (gt_name (i := 7) m.nd) (gts_cons (gt_name (i := 8) m.nd) gts_nil))) (gts_cons (gt_tup m.calm (gts_cons (gt_name (i := 9) m.nd) (gts_cons (gt_name (i := 10) m.nd) gts_nil))) gts_nil))))
  (sb_cons (ss_if (eb_neS (er_reprOf m (by exact T.b_repr) (ea_cons (er_ix (ev_var (i := 4)) (er_add (ev_var (i := 5)) ev_int).v).v ea_nil)).v (er_reprOf m (by exact T.b_repr) (ea_cons (ev_tup (ea_cons (er_sub (er_mulA (ev_var (i := 6)) (ev_var (i := 9))).v (ev_var (i := 7))).v (ea_cons (er_sub (er_mulA (ev_var (i := 6)) (ev_var (i := 10))).v (ev_var (i := 8))).v ea_nil))) ea_nil)).v) (sb_cons (ss_retB (ev_bl).r)
  sb_nil) sb_nil)
  sb_nil)))
  (sb_cons (ss_if (eb_w (ew_and (eb_le (ev_var (i := 3)) ev_int) (ew_and1 (eb_neS (er_reprOf m (by exact T.b_repr) (ea_cons (ev_var (i := 4)) ea_nil)).v (er_reprOf m (by exact T.b_repr) (ea_cons (er_call m d__law_least (by decide) (by rfl) (fun _ _ _ _ _ _ us ws h1 h2 => match us, ws, h1, h2 with | [_, _], [], _, _ => rfl) (ea_cons (ev_var (i := 2)) (ea_cons (ev_var (i := 3)) ea_nil))).v ea_nil)).v)))) (sb_cons (ss_retB (ev_bl).r)
  sb_nil) sb_nil)
  (sb_cons (ss_ownB (i := 11) m (er_listOf m (by exact T.b_list) (ea_cons (ev_var (i := 4)) ea_nil)))
  (sb_cons (ss_rev (i := 4) (pv 4))
  (sb_cons (ss_retB (ev_eq m.hu (er_callK0 (ks := ["pair"]) (perm := [0]) m d_leg_points (by decide) (by rfl) (fun _ _ _ _ _ _ us ws h1 h2 => match us, ws, h1, h2 with | [], [_], _, _ => rfl) (ek_cons (ev_var (i := 0)) ek_nil) (fun ds es h1 h2 => match ds, es, h1, h2 with | [], [_], _, _ => rfl)).v (ev_var (i := 11))).r)
  sb_nil))))))))
theorem sc__law_says : FnScope ["found", "due"] ["found", "due"] (defScope st__law_says) := ⟨rfl, rfl, rfl, by decide +kernel, rfl, by decide +kernel, by decide +kernel⟩
theorem d__law_says (T : Txt P K mg base ca Tt)  : Df P w K mg base (cD K ca (Lm Tt) Pd) 1 "_law_says" st__law_says ["found", "due"] F__law_says :=
  df_gen (N := ["found", "due"]) T.g__law_says T.f__law_says sc__law_says ⟨rfl, by decide, by decide⟩ fun cdv A outer s H E m =>
  (sb_cons (ss_retB (er_if (eb_tru (ev_var (i := 1))) (ev_isB (ev_var (i := 0)) ev_bl).r (ev_isB (ev_var (i := 0)) ev_bl).r))
  sb_nil)
theorem sc_is_point : FnScope ["pair", "thing"] ["pair", "thing"] (defScope st_is_point) := ⟨rfl, rfl, rfl, by decide +kernel, rfl, by decide +kernel, by decide +kernel⟩
theorem d_is_point (T : Txt P K mg base ca Tt) (d_is_point_of : Df P w K mg base (cD K ca (Lm Tt) Pd) 2 "is_point_of" st_is_point_of ["pair", "thing"] F_is_point_of) (d_need_pair : Df P w K mg base (cD K ca (Lm Tt) Pd) 3 "need_pair" st_need_pair ["pair"] F_need_pair) : Df P w K mg base (cD K ca (Lm Tt) Pd) 4 "is_point" st_is_point ["pair", "thing"] F_is_point :=
  df_gen (N := ["pair", "thing"]) T.g_is_point T.f_is_point sc_is_point ⟨rfl, by decide, by decide⟩ fun cdv A outer s H E m =>
  (sb_cons (ss_expr (er_call m d_need_pair (by decide) (by rfl) (fun _ _ _ _ _ _ us ws h1 h2 => match us, ws, h1, h2 with | [_], [], _, _ => rfl) (ea_cons (ev_var (i := 0)) ea_nil)).v)
  (sb_cons (ss_retB (er_call m d_is_point_of (by decide) (by rfl) (fun _ _ _ _ _ _ us ws h1 h2 => match us, ws, h1, h2 with | [_, _], [], _, _ => rfl) (ea_cons (ev_var (i := 0)) (ea_cons (ev_var (i := 1)) ea_nil))))
  sb_nil))
theorem sc__law_is_number : FnScope ["thing"] ["thing"] (defScope st__law_is_number) := ⟨rfl, rfl, rfl, by decide +kernel, rfl, by decide +kernel, by decide +kernel⟩
theorem d__law_is_number (T : Txt P K mg base ca Tt)  : Df P w K mg base (cD K ca (Lm Tt) Pd) 1 "_law_is_number" st__law_is_number ["thing"] F__law_is_number :=
  df_gen (N := ["thing"]) T.g__law_is_number T.f__law_is_number sc__law_is_number ⟨rfl, by decide, by decide⟩ fun cdv A outer s H E m =>
  (sb_cons (ss_retB (ev_and (er_isi m (by exact T.kt) (by exact T.b_isinstance) (ea_cons (ev_var (i := 0)) (ea_cons (ev_ty (T := "int") (by rfl) (by exact T.b_int) (by decide +kernel)) ea_nil))).v (ev_one (ev_not (er_isi m (by exact T.kt) (by exact T.b_isinstance) (ea_cons (ev_var (i := 0)) (ea_cons (ev_ty (T := "bool") (by rfl) (by exact T.b_bool) (by decide +kernel)) ea_nil))).v))).r)
  sb_nil)
theorem sc__law_sums_right : FnScope ["draw", "pair", "due", "w", "a", "points", "lap", "at", "far", "m", "n", "beyond", "point", "i", "other", "told", ".0", "item"] ["draw", "pair", "due"] (defScope st__law_sums_right) := ⟨rfl, rfl, rfl, by decide +kernel, rfl, by decide +kernel, by decide +kernel⟩
theorem d__law_sums_right (T : Txt P K mg base ca Tt) (d__law_is_number : Df P w K mg base (cD K ca (Lm Tt) Pd) 1 "_law_is_number" st__law_is_number ["thing"] F__law_is_number) (d__law_pick : Df P w K mg base (cD K ca (Lm Tt) Pd) 3 "_law_pick" st__law_pick ["draw", "some"] F__law_pick) (d__law_says : Df P w K mg base (cD K ca (Lm Tt) Pd) 1 "_law_says" st__law_says ["found", "due"] F__law_says) (d__law_take : Df P w K mg base (cD K ca (Lm Tt) Pd) 2 "_law_take" st__law_take ["draw", "amount"] F__law_take) (d_is_point : Df P w K mg base (cD K ca (Lm Tt) Pd) 4 "is_point" st_is_point ["pair", "thing"] F_is_point) (d_leg_points : Df P w K mg base (cD K ca (Lm Tt) Pd) 4 "leg_points" st_leg_points ["pair"] F_leg_points) (d_point_sum : Df P w K mg base (cD K ca (Lm Tt) Pd) 4 "point_sum" st_point_sum ["pair", "point"] F_point_sum) : Df P w K mg base (cD K ca (Lm Tt) Pd) 5 "_law_sums_right" st__law_sums_right ["draw", "pair", "due"] F__law_sums_right :=
  df_gen (N := ["draw", "pair", "due", "w", "a", "points", "lap", "at", "far", "m", "n", "beyond", "point", "i", "other", "told", ".0", "item"]) T.g__law_sums_right T.f__law_sums_right sc__law_sums_right ⟨rfl, by decide, by decide⟩ fun cdv A outer s H E m =>
  (sb_cons (ss_asgN (ev_var (i := 1)) (gt_tup m.calm (gts_cons (gt_name (i := 3) m.nd) (gts_cons (gt_name (i := 4) m.nd) gts_nil))))
  (sb_cons (ss_setN (i := 5) m (er_call m d_leg_points (by decide) (by rfl) (fun _ _ _ _ _ _ us ws h1 h2 => match us, ws, h1, h2 with | [_], [], _, _ => rfl) (ea_cons (ev_var (i := 1)) ea_nil)).v)
  (sb_cons (ss_for m (ei_rng1 (by rfl) (by exact T.b_range) (ea_cons ev_int ea_nil)) (gt_name (i := 6) m.nd) (sb_cons (ss_setN (i := 7) m (er_call m d__law_take (by decide) (by rfl) (fun _ _ _ _ _ _ us ws h1 h2 => match us, ws, h1, h2 with | [_, _], [], _, _ => rfl) (ea_cons (ev_var (i := 0)) (ea_cons (er_len (by rfl) (by exact T.b_len) (ea_cons (ev_var (i := 5)) ea_nil)).v ea_nil))).v)
  (sb_cons (ss_setN (i := 8) m (er_call m d__law_pick (by decide) (by rfl) (fun _ _ _ _ _ _ us ws h1 h2 => match us, ws, h1, h2 with | [_, _], [], _, _ => rfl) (ea_cons (ev_var (i := 0)) (ea_cons (er_lst (ea_cons ev_int (ea_cons ev_int (ea_cons ev_int (ea_cons (er_pw ev_int ev_int).v ea_nil))))).v ea_nil))).v)
  (sb_cons (ss_parN (i := 9) (l := 10) (oi := false) (ol := false) m (er_add ev_int (er_call m d__law_take (by decide) (by rfl) (fun _ _ _ _ _ _ us ws h1 h2 => match us, ws, h1, h2 with | [_, _], [], _, _ => rfl) (ea_cons (ev_var (i := 0)) (ea_cons (ev_var (i := 8)) ea_nil))).v) (er_if (eb_eq m.hu (ev_var (i := 7)) (er_sub (er_len (by rfl) (by exact T.b_len) (ea_cons (ev_var (i := 5)) ea_nil)).v ev_int).v) (ev_int).r (er_call m d__law_take (by decide) (by rfl) (fun _ _ _ _ _ _ us ws h1 h2 => match us, ws, h1, h2 with | [_, _], [], _, _ => rfl) (ea_cons (ev_var (i := 0)) (ea_cons (er_add (ev_var (i := 8)) ev_int).v ea_nil)))))
  (sb_cons (ss_setN (i := 11) m (er_if (eb_lt (ev_var (i := 7)) (er_sub (er_len (by rfl) (by exact T.b_len) (ea_cons (ev_var (i := 5)) ea_nil)).v ev_int).v) (er_ix (ev_var (i := 5)) (er_add (ev_var (i := 7)) ev_int).v) (ev_tup (ea_cons ev_int (ea_cons ev_int ea_nil))).r).v)
  (sb_cons (ss_setN (i := 12) m (ev_tup (ea_cons (er_add (er_mulA (ev_var (i := 9)) (er_ix (er_ix (ev_var (i := 5)) (ev_var (i := 7))).v ev_int).v).v (er_mulA (ev_var (i := 10)) (er_ix (ev_var (i := 11)) ev_int).v).v).v (ea_cons (er_add (er_mulA (ev_var (i := 9)) (er_ix (er_ix (ev_var (i := 5)) (ev_var (i := 7))).v ev_int).v).v (er_mulA (ev_var (i := 10)) (er_ix (ev_var (i := 11)) ev_int).v).v).v ea_nil))))
  (sb_cons (ss_if (eb_w (ew_or (eb_neS (er_reprOf m (by exact T.b_repr) (ea_cons (er_lst (ea_cons (er_call m d_point_sum (by decide) (by rfl) (fun _ _ _ _ _ _ us ws h1 h2 => match us, ws, h1, h2 with | [_, _], [], _, _ => rfl) (ea_cons (ev_var (i := 1)) (ea_cons (ev_var (i := 12)) ea_nil))).v (ea_cons (er_callK0 (ks := ["point", "pair"]) (perm := [1, 0]) m d_point_sum (by decide) (by rfl) (fun _ _ _ _ _ _ us ws h1 h2 => match us, ws, h1, h2 with | [], [_, _], _, _ => rfl) (ek_cons (ev_var (i := 12)) (ek_cons (ev_var (i := 1)) ek_nil)) (fun ds es h1 h2 => match ds, es, h1, h2 with | [], [_, _], _, _ => rfl)).v ea_nil))).v ea_nil)).v (er_reprOf m (by exact T.b_repr) (ea_cons (er_mulA (er_lst (ea_cons (ev_tup (ea_cons (ev_var (i := 7)) (ea_cons (ev_var (i := 9)) (ea_cons (ev_var (i := 10)) ea_nil)))) ea_nil)).v ev_int).v ea_nil)).v) (ew_or1 (eb_not (eb_tru (er_call m d__law_says (by decide) (by rfl) (fun _ _ _ _ _ _ us ws h1 h2 => match us, ws, h1, h2 with | [_, _], [], _, _ => rfl) (ea_cons (er_call m d_is_point (by decide) (by rfl) (fun _ _ _ _ _ _ us ws h1 h2 => match us, ws, h1, h2 with | [_, _], [], _, _ => rfl) (ea_cons (ev_var (i := 1)) (ea_cons (ev_var (i := 12)) ea_nil))).v (ea_cons ev_bl ea_nil))).v))))) (sb_cons (ss_retB (ev_bl).r)
  sb_nil) sb_nil)
  (sb_cons (ss_setN (i := 13) m (er_call m d__law_take (by decide) (by rfl) (fun _ _ _ _ _ _ us ws h1 h2 => match us, ws, h1, h2 with | [_, _], [], _, _ => rfl) (ea_cons (ev_var (i := 0)) (ea_cons (er_call m d__law_pick (by decide) (by rfl) (fun _ _ _ _ _ _ us ws h1 h2 => match us, ws, h1, h2 with | [_, _], [], _, _ => rfl) (ea_cons (ev_var (i := 0)) (ea_cons (er_lst (ea_cons ev_int (ea_cons ev_int (ea_cons (er_add (ev_var (i := 4)) ev_int).v (ea_cons (er_pw ev_int ev_int).v ea_nil))))).v ea_nil))).v ea_nil))).v)
  (sb_cons (ss_setN (i := 14) m (ev_tup (ea_cons (ev_var (i := 13)) (ea_cons (er_add (er_md (er_int m (by exact T.b_int) (ea_cons (er_mulA (ev_var (i := 3)) (ev_var (i := 13))).v ea_nil)).v (er_int m (by exact T.b_int) (ea_cons (ev_var (i := 4)) ea_nil)).v).v (er_mulA (ev_var (i := 4)) (er_call m d__law_pick (by decide) (by rfl) (fun _ _ _ _ _ _ us ws h1 h2 => match us, ws, h1, h2 with | [_, _], [], _, _ => rfl) (ea_cons (ev_var (i := 0)) (ea_cons (er_lst (ea_cons ev_int (ea_cons ev_int (ea_cons ev_int (ea_cons (er_call m d__law_take (by decide) (by rfl) (fun _ _ _ _ _ _ us ws h1 h2 => match us, ws, h1, h2 with | [_, _], [], _, _ => rfl) (ea_cons (ev_var (i := 0)) (ea_cons (er_pw ev_int ev_int).v ea_nil))).v ea_nil))))).v ea_nil))).v).v).v ea_nil))))
  (sb_cons (ss_if (eb_ne m.hu (ev_var (i := 14)) (ev_tup (ea_cons ev_int (ea_cons ev_int ea_nil)))) (sb_cons (ss_setN (i := 15) m (er_call m d_point_sum (by decide) (by rfl) (fun _ _ _ _ _ _ us ws h1 h2 => match us, ws, h1, h2 with | [_, _], [], _, _ => rfl) (ea_cons (ev_var (i := 1)) (ea_cons (ev_var (i := 14)) ea_nil))).v)
  (sb_cons (ss_if (eb_w (ew_or (eb_not (eb_tru (er_isi m (by exact T.kt) (by exact T.b_isinstance) (ea_cons (ev_var (i := 15)) (ea_cons (ev_ty (T := "tuple") (by rfl) (by exact T.b_tuple) (by decide +kernel)) ea_nil))).v)) (ew_or (eb_ne m.hu (er_len (by rfl) (by exact T.b_len) (ea_cons (ev_var (i := 15)) ea_nil)).v ev_int) (ew_or1 (eb_ne m.hu (er_comp m (ei_seq (ev_var (i := 15))) (own := [(".0", 16), ("item", 17)]) rfl (fun s H C cl fp => (gt_name (i := 17) (m.blk).nd)) (fun s H C cl fp => (ets_one (eb_not (eb_tru (er_call (m.blk) d__law_is_number (by decide) (by rfl) (fun _ _ _ _ _ _ us ws h1 h2 => match us, ws, h1, h2 with | [_], [], _, _ => rfl) (ea_cons (ev_var (i := 17)) ea_nil)).v)))) (fun s H C cl fp => ev_int)).v (er_lst ea_nil).v))))) (sb_cons (ss_retB (ev_bl).r)
  sb_nil) sb_nil)
  (sb_cons (ss_asgN (ev_var (i := 15)) (gt_tup m.calm (gts_cons (gt_name (i := 7) m.nd) (gts_cons (gt_name (i := 9) m.nd) (gts_cons (gt_name (i := 10) m.nd) gts_nil)))))
  (sb_cons (ss_if (eb_w (ew_or (eb_not (eb_lelt ev_int (ev_var (i := 7)) (er_len (by rfl) (by exact T.b_len) (ea_cons (ev_var (i := 5)) ea_nil)).v)) (ew_or (eb_lt (ev_var (i := 9)) ev_int) (ew_or (eb_lt (ev_var (i := 10)) ev_int) (ew_or1 (eb_w (ew_and (eb_eq m.hu (ev_var (i := 7)) (er_sub (er_len (by rfl) (by exact T.b_len) (ea_cons (ev_var (i := 5)) ea_nil)).v ev_int).v) (ew_and1 (eb_ne m.hu (ev_var (i := 10)) ev_int))))))))) (sb_cons (ss_retB (ev_bl).r)
  sb_nil) sb_nil)
  (sb_cons (ss_setN (i := 11) m (er_if (eb_lt (ev_var (i := 7)) (er_sub (er_len (by rfl) (by exact T.b_len) (ea_cons (ev_var (i := 5)) ea_nil)).v ev_int).v) (er_ix (ev_var (i := 5)) (er_add (ev_var (i := 7)) ev_int).v) (ev_tup (ea_cons ev_int (ea_cons ev_int ea_nil))).r).v)
  (sb_cons (ss_if (eb_ne m.hu (ev_var (i := 14)) (ev_tup (ea_cons (er_add (er_mulA (ev_var (i := 9)) (er_ix (er_ix (ev_var (i := 5)) (ev_var (i := 7))).v ev_int).v).v (er_mulA (ev_var (i := 10)) (er_ix (ev_var (i := 11)) ev_int).v).v).v (ea_cons (er_add (er_mulA (ev_var (i := 9)) (er_ix (er_ix (ev_var (i := 5)) (ev_var (i := 7))).v ev_int).v).v (er_mulA (ev_var (i := 10)) (er_ix (ev_var (i := 11)) ev_int).v).v).v ea_nil)))) (sb_cons (ss_retB (ev_bl).r)
  sb_nil) sb_nil)
  sb_nil)))))) sb_nil)
  sb_nil))))))))))
  (sb_cons (ss_retB (ev_bl).r)
  sb_nil))))
theorem sc__law_refused : FnScope ["draw", "pair", "is_long", "w", "a", "i", "j", "near", "work", "bad", "odd"] ["draw", "pair", "is_long"] (defScope st__law_refused) := ⟨rfl, rfl, rfl, by decide +kernel, rfl, by decide +kernel, by decide +kernel⟩
theorem d__law_refused (T : Txt P K mg base ca Tt) (d__law_pick : Df P w K mg base (cD K ca (Lm Tt) Pd) 3 "_law_pick" st__law_pick ["draw", "some"] F__law_pick) (d__law_says : Df P w K mg base (cD K ca (Lm Tt) Pd) 1 "_law_says" st__law_says ["found", "due"] F__law_says) (d__law_take : Df P w K mg base (cD K ca (Lm Tt) Pd) 2 "_law_take" st__law_take ["draw", "amount"] F__law_take) (d__law_word : Df P w K mg base (cD K ca (Lm Tt) Pd) 1 "_law_word" st__law_word ["error"] F__law_word) (d_is_point : Df P w K mg base (cD K ca (Lm Tt) Pd) 4 "is_point" st_is_point ["pair", "thing"] F_is_point) (d_leg_points : Df P w K mg base (cD K ca (Lm Tt) Pd) 4 "leg_points" st_leg_points ["pair"] F_leg_points) (d_point_sum : Df P w K mg base (cD K ca (Lm Tt) Pd) 4 "point_sum" st_point_sum ["pair", "point"] F_point_sum) : Df P w K mg base (cD K ca (Lm Tt) Pd) 7 "_law_refused" st__law_refused ["draw", "pair", "is_long"] F__law_refused :=
  df_genL (N := ["draw", "pair", "is_long", "w", "a", "i", "j", "near", "work", "bad", "odd"]) T.g__law_refused T.lc__law_refused sc__law_refused fun cdv A outer s H E m C =>
  (sb_cons (ss_asgN (ev_var (i := 1)) (gt_tup m.calm (gts_cons (gt_name (i := 3) m.nd) (gts_cons (gt_name (i := 4) m.nd) gts_nil))))
  (sb_cons (ss_setN (i := 5) m (er_call m d__law_take (by decide) (by rfl) (fun _ _ _ _ _ _ us ws h1 h2 => match us, ws, h1, h2 with | [_, _], [], _, _ => rfl) (ea_cons (ev_var (i := 0)) (ea_cons (er_add (er_mulA ev_int (ev_var (i := 4))).v ev_int).v ea_nil))).v)
  (sb_cons (ss_setN (i := 6) m (er_md (er_int m (by exact T.b_int) (ea_cons (er_mulA (ev_var (i := 3)) (ev_var (i := 5))).v ea_nil)).v (er_int m (by exact T.b_int) (ea_cons (ev_var (i := 4)) ea_nil)).v).v)
  (sb_cons (ss_setN (i := 7) m (er_lst (ea_cons ev_non (ea_cons ev_int (ea_cons (ev_tup (ea_cons ev_int (ea_cons ev_int ea_nil))) (ea_cons (er_lst (ea_cons ev_int (ea_cons (ev_var (i := 4)) ea_nil))).v (ea_cons (ev_tup (ea_cons (ev_var (i := 5)) (ea_cons (er_sub (er_sub ev_int (ev_var (i := 4))).v (ev_var (i := 6))).v ea_nil))) (ea_cons (ev_tup (ea_cons (er_sub ev_int (ev_var (i := 4))).v (ea_cons ev_int ea_nil))) (ea_cons (ev_tup (ea_cons (ev_var (i := 5)) ea_nil)) (ea_cons (ev_tup (ea_cons (ev_var (i := 5)) (ea_cons (ev_var (i := 6)) (ea_cons ev_int ea_nil)))) (ea_cons (ev_tup (ea_cons ev_bl (ea_cons (er_add (ev_var (i := 6)) (ev_var (i := 4))).v ea_nil))) (ea_cons (ev_tup (ea_cons ev_int (ea_cons ev_bl ea_nil))) (ea_cons ev_str ea_nil)))))))))))).v)
  (sb_cons (ss_setN (i := 7) m (er_add (ev_var (i := 7)) (er_if (eb_gt (ev_var (i := 4)) ev_int) (er_lst (ea_cons (ev_tup (ea_cons (ev_var (i := 5)) (ea_cons (er_add (er_add (ev_var (i := 6)) (ev_var (i := 4))).v ev_int).v ea_nil))) (ea_cons (ev_tup (ea_cons (er_add (ev_var (i := 5)) ev_int).v (ea_cons (er_if (eb_ne m.hu (ev_var (i := 3)) ev_int) (er_add (er_add (ev_var (i := 6)) (ev_var (i := 4))).v ev_int) (er_add (ev_var (i := 6)) (ev_var (i := 4)))).v ea_nil))) ea_nil))) (er_lst ea_nil)).v).v)
  (sb_cons (ss_setN (i := 10) m (er_call m d__law_pick (by decide) (by rfl) (fun _ _ _ _ _ _ us ws h1 h2 => match us, ws, h1, h2 with | [_, _], [], _, _ => rfl) (ea_cons (ev_var (i := 0)) (ea_cons (ev_var (i := 7)) ea_nil))).v)
  (sb_cons (ss_if (eb_w (ew_or (eb_not (eb_tru (er_call m d__law_says (by decide) (by rfl) (fun _ _ _ _ _ _ us ws h1 h2 => match us, ws, h1, h2 with | [_, _], [], _, _ => rfl) (ea_cons (er_call m d_is_point (by decide) (by rfl) (fun _ _ _ _ _ _ us ws h1 h2 => match us, ws, h1, h2 with | [_, _], [], _, _ => rfl) (ea_cons (ev_var (i := 1)) (ea_cons (ev_var (i := 10)) ea_nil))).v (ea_cons ev_bl ea_nil))).v)) (ew_or1 (eb_not (eb_tru (er_call m d__law_says (by decide) (by rfl) (fun _ _ _ _ _ _ us ws h1 h2 => match us, ws, h1, h2 with | [_, _], [], _, _ => rfl) (ea_cons (er_callK0 (ks := ["thing", "pair"]) (perm := [1, 0]) m d_is_point (by decide) (by rfl) (fun _ _ _ _ _ _ us ws h1 h2 => match us, ws, h1, h2 with | [], [_, _], _, _ => rfl) (ek_cons (ev_var (i := 10)) (ek_cons (ev_var (i := 1)) ek_nil)) (fun ds es h1 h2 => match ds, es, h1, h2 with | [], [_, _], _, _ => rfl)).v (ea_cons ev_bl ea_nil))).v))))) (sb_cons (ss_retB (ev_bl).r)
  sb_nil) sb_nil)
  (sb_cons (ss_if (eb_ne m.hu (er_call m d__law_word (by decide) (by rfl) (fun _ _ _ _ _ _ us ws h1 h2 => match us, ws, h1, h2 with | [_], [], _, _ => rfl) (ea_cons (er_caught (Xs := Xs) (ly := 1) (li := 2) m (by decide) T.cf (by rfl) sc__law_caught T_bindc (by rfl) (by rfl) (by rfl) (by rfl) (by decide) (by decide) (by rfl) (by rfl) (by rfl) (by rfl) (by decide) (by decide) (by decide) (by decide) (by decide) (by decide) (ev_lam (i := 0) C (by rfl) (LamX.lamS_by (by rfl))) (by
    refine (rows_c ?_ rows_n)
    · exact ⟨LamX.lamS_by (by rfl), rfl, fun _ _ _ _ _ => rfl, fun A outer s H E f k m => (er_call m d_point_sum (by decide) (by rfl) (fun _ _ _ _ _ _ us ws h1 h2 => match us, ws, h1, h2 with | [_, _], [], _, _ => rfl) (ea_cons (ev_var (i := 1)) (ea_cons (ev_var (i := 10)) ea_nil))).v⟩) (fun _ => rfl) (fun _ => rfl) (fun _ => rfl)).v ea_nil)).v (er_if (eb_tru (ev_var (i := 2))) (ev_str).r (ev_str).r).v) (sb_cons (ss_retB (ev_bl).r)
  sb_nil) sb_nil)
  (sb_cons (ss_setN (i := 9) m (er_call m d__law_pick (by decide) (by rfl) (fun _ _ _ _ _ _ us ws h1 h2 => match us, ws, h1, h2 with | [_, _], [], _, _ => rfl) (ea_cons (ev_var (i := 0)) (ea_cons (er_lst (ea_cons ev_non (ea_cons (ev_tup (ea_cons ev_int (ea_cons ev_int ea_nil))) (ea_cons (ev_tup (ea_cons ev_int (ea_cons ev_int ea_nil))) (ea_cons (ev_tup (ea_cons ev_int (ea_cons ev_int ea_nil))) (ea_cons (er_lst (ea_cons ev_int (ea_cons ev_int ea_nil))).v (ea_cons (ev_tup (ea_cons ev_int (ea_cons (er_add (er_pw ev_int ev_int).v ev_int).v ea_nil))) (ea_cons (ev_tup (ea_cons ev_bl (ea_cons ev_int ea_nil))) ea_nil)))))))).v ea_nil))).v)
  (sb_cons (ss_for m (ei_seq (er_lst (ea_cons (ev_lam (i := 3) C (by rfl) (LamX.lamS_by (by rfl))) (ea_cons (ev_lam (i := 2) C (by rfl) (LamX.lamS_by (by rfl))) (ea_cons (ev_lam (i := 1) C (by rfl) (LamX.lamS_by (by rfl))) ea_nil)))).v) (gt_name (i := 8) m.nd) (sb_cons (ss_if (eb_ne m.hu (er_call m d__law_word (by decide) (by rfl) (fun _ _ _ _ _ _ us ws h1 h2 => match us, ws, h1, h2 with | [_], [], _, _ => rfl) (ea_cons (er_caught (Xs := Xs) (ly := 1) (li := 2) m (by decide) T.cf (by rfl) sc__law_caught T_bindc (by rfl) (by rfl) (by rfl) (by rfl) (by decide) (by decide) (by rfl) (by rfl) (by rfl) (by rfl) (by decide) (by decide) (by decide) (by decide) (by decide) (by decide) (ev_var (i := 8)) (by
    refine (rows_c ?_ (rows_c ?_ (rows_c ?_ rows_n)))
    · exact ⟨LamX.lamS_by (by rfl), rfl, fun _ _ _ _ _ => rfl, fun A outer s H E f k m => (er_call m d_is_point (by decide) (by rfl) (fun _ _ _ _ _ _ us ws h1 h2 => match us, ws, h1, h2 with | [_, _], [], _, _ => rfl) (ea_cons (ev_var (i := 9)) (ea_cons (ev_tup (ea_cons ev_int (ea_cons ev_int ea_nil))) ea_nil))).v⟩
    · exact ⟨LamX.lamS_by (by rfl), rfl, fun _ _ _ _ _ => rfl, fun A outer s H E f k m => (er_call m d_leg_points (by decide) (by rfl) (fun _ _ _ _ _ _ us ws h1 h2 => match us, ws, h1, h2 with | [_], [], _, _ => rfl) (ea_cons (ev_var (i := 9)) ea_nil)).v⟩
    · exact ⟨LamX.lamS_by (by rfl), rfl, fun _ _ _ _ _ => rfl, fun A outer s H E f k m => (er_call m d_point_sum (by decide) (by rfl) (fun _ _ _ _ _ _ us ws h1 h2 => match us, ws, h1, h2 with | [_, _], [], _, _ => rfl) (ea_cons (ev_var (i := 9)) (ea_cons ev_non ea_nil))).v⟩) (fun _ => rfl) (fun _ => rfl) (fun _ => rfl)).v ea_nil)).v ev_str) (sb_cons (ss_retB (ev_bl).r)
  sb_nil) sb_nil)
  sb_nil))
  (sb_cons (ss_retB (ev_bl).r)
  sb_nil)))))))))))
theorem sc_law : FnScope ["script", "draw", "turn", "due", "pair"] ["script"] (defScope st_law) := ⟨rfl, rfl, rfl, by decide +kernel, rfl, by decide +kernel, by decide +kernel⟩
theorem d_law_rest (T : Txt P K mg base ca Tt) (d__law_leg : Df P w K mg base (cD K ca (Lm Tt) Pd) 1 "_law_leg" st__law_leg ["w", "part", "most"] F__law_leg) (d__law_list_right : Df P w K mg base (cD K ca (Lm Tt) Pd) 5 "_law_list_right" st__law_list_right ["pair", "due"] F__law_list_right) (d__law_refused : Df P w K mg base (cD K ca (Lm Tt) Pd) 7 "_law_refused" st__law_refused ["draw", "pair", "is_long"] F__law_refused) (d__law_some_pair : Df P w K mg base (cD K ca (Lm Tt) Pd) 5 "_law_some_pair" st__law_some_pair ["draw"] F__law_some_pair) (d__law_sums_right : Df P w K mg base (cD K ca (Lm Tt) Pd) 5 "_law_sums_right" st__law_sums_right ["draw", "pair", "due"] F__law_sums_right) (d__law_word : Df P w K mg base (cD K ca (Lm Tt) Pd) 1 "_law_word" st__law_word ["error"] F__law_word) (d_leg_points : Df P w K mg base (cD K ca (Lm Tt) Pd) 4 "leg_points" st_leg_points ["pair"] F_leg_points) (d_point_sum : Df P w K mg base (cD K ca (Lm Tt) Pd) 4 "point_sum" st_point_sum ["pair", "point"] F_point_sum) (cdv : Value) (A : Around) (outer : List Env) (s : Shared) (H : Hp) (E : L2.XK) (m : Fm (FX P w K mg base ["script", "draw", "turn", "due", "pair"] "law" st_law (ca "law") cdv A outer s H E) (FW E) 7) (C : LamC (FX P w K mg base ["script", "draw", "turn", "due", "pair"] "law" st_law (ca "law") cdv A outer s H E) (Lm Tt)) : SB (FX P w K mg base ["script", "draw", "turn", "due", "pair"] "law" st_law (ca "law") cdv A outer s H E) (cD K ca (Lm Tt) Pd) (FW E) (defBody st_law).tail (b_law (FX P w K mg base ["script", "draw", "turn", "due", "pair"] "law" st_law (ca "law") cdv A outer s H E).env.cells) :=
  (sb_cons (ss_for m (ei_rng1 (by rfl) (by exact T.b_range) (ea_cons (er_add ev_int (er_min2 m (by exact T.b_min) (ea_cons (er_len (by rfl) (by exact T.b_len) (ea_cons (ev_var (i := 0)) ea_nil)).v (ea_cons ev_int ea_nil))).v).v ea_nil)) (gt_name (i := 2) m.nd) (sb_cons (ss_setN (i := 4) m (er_call m d__law_some_pair (by decide) (by rfl) (fun _ _ _ _ _ _ us ws h1 h2 => match us, ws, h1, h2 with | [_], [], _, _ => rfl) (ea_cons (ev_var (i := 1)) ea_nil)).v)
  (sb_cons (ss_if (eb_gt (er_ix (ev_var (i := 4)) ev_int).v (er_pw ev_int ev_int).v) (sb_cons (ss_setN (i := 4) m (ev_tup (ea_cons ev_int (ea_cons ev_int ea_nil))))
  sb_nil) sb_nil)
  (sb_cons (ss_setN (i := 3) m (er_call m d__law_leg (by decide) (by rfl) (fun _ _ _ _ _ _ us ws h1 h2 => match us, ws, h1, h2 with | [_, _, _], [], _, _ => rfl) (ea_cons (er_ix (ev_var (i := 4)) ev_int).v (ea_cons (er_ix (ev_var (i := 4)) ev_int).v (ea_cons ev_int ea_nil)))).v)
  (sb_cons (ss_if (eb_isN (ev_var (i := 3)) ev_non) (sb_cons (ss_if (eb_ne m.hu (er_call m d__law_word (by decide) (by rfl) (fun _ _ _ _ _ _ us ws h1 h2 => match us, ws, h1, h2 with | [_], [], _, _ => rfl) (ea_cons (er_caught (Xs := Xs) (ly := 1) (li := 2) m (by decide) T.cf (by rfl) sc__law_caught T_bindc (by rfl) (by rfl) (by rfl) (by rfl) (by decide) (by decide) (by rfl) (by rfl) (by rfl) (by rfl) (by decide) (by decide) (by decide) (by decide) (by decide) (by decide) (ev_lam (i := 4) C (by rfl) (LamX.lamS_by (by rfl))) (by
    refine (rows_c ?_ rows_n)
    · exact ⟨LamX.lamS_by (by rfl), rfl, fun _ _ _ _ _ => rfl, fun A outer s H E f k m => (er_call m d_leg_points (by decide) (by rfl) (fun _ _ _ _ _ _ us ws h1 h2 => match us, ws, h1, h2 with | [_], [], _, _ => rfl) (ea_cons (ev_var (i := 4)) ea_nil)).v⟩) (fun _ => rfl) (fun _ => rfl) (fun _ => rfl)).v ea_nil)).v ev_str) (sb_cons (ss_retB (ev_bl).r)
  sb_nil) sb_nil)
  (sb_cons (ss_if (eb_ne m.hu (er_call m d__law_word (by decide) (by rfl) (fun _ _ _ _ _ _ us ws h1 h2 => match us, ws, h1, h2 with | [_], [], _, _ => rfl) (ea_cons (er_caught (Xs := Xs) (ly := 1) (li := 2) m (by decide) T.cf (by rfl) sc__law_caught T_bindc (by rfl) (by rfl) (by rfl) (by rfl) (by decide) (by decide) (by rfl) (by rfl) (by rfl) (by rfl) (by decide) (by decide) (by decide) (by decide) (by decide) (by decide) (ev_lam (i := 5) C (by rfl) (LamX.lamS_by (by rfl))) (by
    refine (rows_c ?_ rows_n)
    · exact ⟨LamX.lamS_by (by rfl), rfl, fun _ _ _ _ _ => rfl, fun A outer s H E f k m => (er_call m d_point_sum (by decide) (by rfl) (fun _ _ _ _ _ _ us ws h1 h2 => match us, ws, h1, h2 with | [_, _], [], _, _ => rfl) (ea_cons (ev_var (i := 4)) (ea_cons (ev_tup (ea_cons ev_int (ea_cons (er_ix (ev_var (i := 4)) ev_int).v ea_nil))) ea_nil))).v⟩) (fun _ => rfl) (fun _ => rfl) (fun _ => rfl)).v ea_nil)).v ev_str) (sb_cons (ss_retB (ev_bl).r)
  sb_nil) sb_nil)
  sb_nil)) (sb_cons (ss_if (eb_w (ew_or (eb_not (eb_tru (er_call m d__law_list_right (by decide) (by rfl) (fun _ _ _ _ _ _ us ws h1 h2 => match us, ws, h1, h2 with | [_, _], [], _, _ => rfl) (ea_cons (ev_var (i := 4)) (ea_cons (ev_var (i := 3)) ea_nil))).v)) (ew_or1 (eb_not (eb_tru (er_call m d__law_sums_right (by decide) (by rfl) (fun _ _ _ _ _ _ us ws h1 h2 => match us, ws, h1, h2 with | [_, _, _], [], _, _ => rfl) (ea_cons (ev_var (i := 1)) (ea_cons (ev_var (i := 4)) (ea_cons (ev_var (i := 3)) ea_nil)))).v))))) (sb_cons (ss_retB (ev_bl).r)
  sb_nil) sb_nil)
  sb_nil))
  (sb_cons (ss_if (eb_not (eb_tru (er_call m d__law_refused (by decide) (by rfl) (fun _ _ _ _ _ _ us ws h1 h2 => match us, ws, h1, h2 with | [_, _, _], [], _, _ => rfl) (ea_cons (ev_var (i := 1)) (ea_cons (ev_var (i := 4)) (ea_cons (ev_isN (ev_var (i := 3)) ev_non) ea_nil)))).v)) (sb_cons (ss_retB (ev_bl).r)
  sb_nil) sb_nil)
  sb_nil))))))
  (sb_cons (ss_retB (ev_and (ev_eqS (er_reprOf m (by exact T.b_repr) (ea_cons (er_call m d_leg_points (by decide) (by rfl) (fun _ _ _ _ _ _ us ws h1 h2 => match us, ws, h1, h2 with | [_], [], _, _ => rfl) (ea_cons (ev_tup (ea_cons ev_int (ea_cons ev_int ea_nil))) ea_nil)).v ea_nil)).v (er_reprOf m (by exact T.b_repr) (ea_cons (er_lst (ea_cons (ev_tup (ea_cons ev_int (ea_cons ev_int ea_nil))) (ea_cons (ev_tup (ea_cons ev_int (ea_cons ev_int ea_nil))) (ea_cons (ev_tup (ea_cons ev_int (ea_cons ev_int ea_nil))) (ea_cons (ev_tup (ea_cons ev_int (ea_cons ev_int ea_nil))) (ea_cons (ev_tup (ea_cons ev_int (ea_cons ev_int ea_nil))) ea_nil)))))).v ea_nil)).v) (ev_one (ev_eq m.hu (er_call m d_point_sum (by decide) (by rfl) (fun _ _ _ _ _ _ us ws h1 h2 => match us, ws, h1, h2 with | [_, _], [], _, _ => rfl) (ea_cons (ev_tup (ea_cons ev_int (ea_cons ev_int ea_nil))) (ea_cons (ev_tup (ea_cons ev_int (ea_cons ev_int ea_nil))) ea_nil))).v (ev_tup (ea_cons ev_int (ea_cons ev_int (ea_cons ev_int ea_nil))))))).r)
  sb_nil))
end
end K12

set_option Elab.async false
set_option linter.all false
set_option maxRecDepth 100000
set_option maxHeartbeats 4000000
namespace K12
open PySem PySem.Spec PyProof.Rows L2 Dv
section
variable {P : Program} {w : World} {K : PySem.W.Frag} {mg : Str → Option Value} {base : Heap} {ca : Str → Addr} {Tt : List (Addr × Str)} {Pd : DrawP}
theorem e__law_mixed (T : Txt P K mg base ca Tt) : Df P w K mg base (cD K ca (Lm Tt) Pd) 1 "_law_mixed" st__law_mixed ["draw"] F__law_mixed := d__law_mixed T 
theorem e__law_take (T : Txt P K mg base ca Tt) : Df P w K mg base (cD K ca (Lm Tt) Pd) 2 "_law_take" st__law_take ["draw", "amount"] F__law_take := d__law_take T (e__law_mixed T)
theorem e__law_pick (T : Txt P K mg base ca Tt) : Df P w K mg base (cD K ca (Lm Tt) Pd) 3 "_law_pick" st__law_pick ["draw", "some"] F__law_pick := d__law_pick T (e__law_take T)
theorem e__law_common (T : Txt P K mg base ca Tt) : Df P w K mg base (cD K ca (Lm Tt) Pd) 1 "_law_common" st__law_common ["one", "other"] F__law_common := d__law_common T 
theorem e__law_free (T : Txt P K mg base ca Tt) : Df P w K mg base (cD K ca (Lm Tt) Pd) 2 "_law_free" st__law_free ["part"] F__law_free := d__law_free T (e__law_common T)
theorem e__law_pair (T : Txt P K mg base ca Tt) : Df P w K mg base (cD K ca (Lm Tt) Pd) 4 "_law_pair" st__law_pair ["draw", "most"] F__law_pair := d__law_pair T (e__law_free T) (e__law_pick T) (e__law_take T)
theorem e__law_fraction (T : Txt P K mg base ca Tt) : Df P w K mg base (cD K ca (Lm Tt) Pd) 1 "_law_fraction" st__law_fraction ["leg"] F__law_fraction := d__law_fraction T 
theorem e__law_some_pair (T : Txt P K mg base ca Tt) : Df P w K mg base (cD K ca (Lm Tt) Pd) 5 "_law_some_pair" st__law_some_pair ["draw"] F__law_some_pair := d__law_some_pair T (e__law_fraction T) (e__law_pair T) (e__law_pick T) (e__law_take T)
theorem e__law_leg (T : Txt P K mg base ca Tt) : Df P w K mg base (cD K ca (Lm Tt) Pd) 1 "_law_leg" st__law_leg ["w", "part", "most"] F__law_leg := d__law_leg T 
theorem e__law_word (T : Txt P K mg base ca Tt) : Df P w K mg base (cD K ca (Lm Tt) Pd) 1 "_law_word" st__law_word ["error"] F__law_word := d__law_word T 
theorem e_is_tuple (T : Txt P K mg base ca Tt) : Df P w K mg base (cD K ca (Lm Tt) Pd) 1 "is_tuple" st_is_tuple ["thing", "size"] F_is_tuple := d_is_tuple T 
theorem e_is_number (T : Txt P K mg base ca Tt) : Df P w K mg base (cD K ca (Lm Tt) Pd) 1 "is_number" st_is_number ["thing"] F_is_number := d_is_number T 
theorem e_is_pair (T : Txt P K mg base ca Tt) : Df P w K mg base (cD K ca (Lm Tt) Pd) 2 "is_pair" st_is_pair ["thing"] F_is_pair := d_is_pair T (e_is_number T) (e_is_tuple T)
theorem e_need_pair (T : Txt P K mg base ca Tt) : Df P w K mg base (cD K ca (Lm Tt) Pd) 3 "need_pair" st_need_pair ["pair"] F_need_pair := d_need_pair T (e_is_pair T)
theorem e_leg_numbers (T : Txt P K mg base ca Tt) : Df P w K mg base (cD K ca (Lm Tt) Pd) 2 "leg_numbers" st_leg_numbers ["pair"] F_leg_numbers := d_leg_numbers T 
theorem e_points_of (T : Txt P K mg base ca Tt) : Df P w K mg base (cD K ca (Lm Tt) Pd) 3 "points_of" st_points_of ["pair"] F_points_of := d_points_of T (e_leg_numbers T)
theorem e_leg_points (T : Txt P K mg base ca Tt) : Df P w K mg base (cD K ca (Lm Tt) Pd) 4 "leg_points" st_leg_points ["pair"] F_leg_points := d_leg_points T (e_need_pair T) (e_points_of T)
theorem e_is_point_of (T : Txt P K mg base ca Tt) : Df P w K mg base (cD K ca (Lm Tt) Pd) 2 "is_point_of" st_is_point_of ["pair", "thing"] F_is_point_of := d_is_point_of T (e_is_number T) (e_is_tuple T)
theorem e_point_sum (T : Txt P K mg base ca Tt) : Df P w K mg base (cD K ca (Lm Tt) Pd) 4 "point_sum" st_point_sum ["pair", "point"] F_point_sum := d_point_sum T (e_is_point_of T) (e_need_pair T) (e_points_of T)
theorem e__law_least (T : Txt P K mg base ca Tt) : Df P w K mg base (cD K ca (Lm Tt) Pd) 1 "_law_least" st__law_least ["w", "a"] F__law_least := d__law_least T 
theorem e__law_list_right (T : Txt P K mg base ca Tt) : Df P w K mg base (cD K ca (Lm Tt) Pd) 5 "_law_list_right" st__law_list_right ["pair", "due"] F__law_list_right := d__law_list_right T (e__law_least T) (e_leg_points T)
theorem e__law_says (T : Txt P K mg base ca Tt) : Df P w K mg base (cD K ca (Lm Tt) Pd) 1 "_law_says" st__law_says ["found", "due"] F__law_says := d__law_says T 
theorem e_is_point (T : Txt P K mg base ca Tt) : Df P w K mg base (cD K ca (Lm Tt) Pd) 4 "is_point" st_is_point ["pair", "thing"] F_is_point := d_is_point T (e_is_point_of T) (e_need_pair T)
theorem e__law_is_number (T : Txt P K mg base ca Tt) : Df P w K mg base (cD K ca (Lm Tt) Pd) 1 "_law_is_number" st__law_is_number ["thing"] F__law_is_number := d__law_is_number T 
theorem e__law_sums_right (T : Txt P K mg base ca Tt) : Df P w K mg base (cD K ca (Lm Tt) Pd) 5 "_law_sums_right" st__law_sums_right ["draw", "pair", "due"] F__law_sums_right := d__law_sums_right T (e__law_is_number T) (e__law_pick T) (e__law_says T) (e__law_take T) (e_is_point T) (e_leg_points T) (e_point_sum T)
theorem e__law_refused (T : Txt P K mg base ca Tt) : Df P w K mg base (cD K ca (Lm Tt) Pd) 7 "_law_refused" st__law_refused ["draw", "pair", "is_long"] F__law_refused := d__law_refused T (e__law_pick T) (e__law_says T) (e__law_take T) (e__law_word T) (e_is_point T) (e_leg_points T) (e_point_sum T)
def LawOk : Prop := ∀ ns : List Int, ns.length ≤ 63 → ∀ tk, MnS (b_law tk) → b_law tk ((some (.val (.ro (ns.map .int))) :: List.replicate 4 none).set 1 (some (.val .drw))) ⟨fun _ => False, fun r => r = .val (.bl true), fun _ => False, fun _ => False⟩ (fun _ => False)
theorem law_all (T : Txt P K mg base ca Tt) {fb : FuncData} {oc' : Value} {od' : Option Addr} {kV' doc' pm' : Value} {an' : Option Addr} {ct' : Value} {osl' : Array (Option Value)} {cx T' : Addr} (lk : K.lookup (ca "law") = some ⟨oc', od', .func (PySem.W.fnOf "law" "law" (defArgs st_law) (defBody st_law) (defScope st_law) .none kV' doc' pm' an' (.ref cx) ct'), osl'⟩) (hcd : PySem.W.codeIn K (.ref cx) "law" = true) (tb : LamX.TabB base mg cx T') (m1 : (T', lamQ "law" st_law) ∈ (Lm Tt).T) (m2 : ∀ p ∈ (Lm Tt).T, p.1 = T' → p.2 = lamQ "law" st_law) (ff : Fun K "_law_begun" "_law_begun" st__law_begun (ca "_law_begun") fb) (ok : BegOk 3 b1_law_begun b2_law_begun) (pure : LawOk) : FnD P w K mg base 8 (ca "law") (PySem.W.fnOf "law" "law" (defArgs st_law) (defBody st_law) (defScope st_law) .none kV' doc' pm' an' (.ref cx) ct') ["script"] (spL K (Lm Tt)) := by
  have FB := d__law_begun (P := P) (w := w) (base := base) T ok ff
  have kp := ff.kp
  obtain ⟨oc, od, kV, doc, pm, an, cdv, ct, osl, rfl, _, _⟩ := ff.ex
  exact law_fnL2 (n := 4) (i := 1) (xb := "_law_begun") (xd := "draw") (stb := st__law_begun) (psb := ["script"]) (rest := (defBody st_law).tail) lk hcd tb m1 m2 sc_law rfl rfl rfl rfl (by decide) ⟨"script", rfl, by first | exact .inl rfl | exact .inr (.inl rfl), by decide, by decide, rfl⟩ (by first | exact .inl rfl | exact .inr rfl) (by first | exact .inr rfl | exact .inl (fun _ _ _ _ _ _ => rfl)) (fun _ _ _ _ _ _ => rfl) (by decide) (fun _ _ _ _ _ _ _ => rfl) (fun _ _ _ _ _ _ _ => rfl)
    T.g__law_begun kp FB (by decide) (fun _ _ _ _ _ _ us ws h1 h2 => match us, ws, h1, h2 with | [_], [], _, _ => rfl) (fun cdv A outer s H E m C Pd => d_law_rest T (e__law_leg T) (e__law_list_right T) (e__law_refused T) (e__law_some_pair T) (e__law_sums_right T) (e__law_word T) (e_leg_points T) (e_point_sum T) cdv A outer s H E m C) pure
end
def lxs : List Str := ["_law_refused", "law"]
abbrev lqs : List Str := [lamQ "_law_refused" st__law_refused, lamQ "law" st_law]
theorem all_mk {l : PySem.W.OpenLaw} {w : World} {K : PySem.W.Frag} (pure : LawOk) (beg : BegOk 3 b1_law_begun b2_law_begun)
    {oc0 kV0 dc0 pm0 cd0 ct0 : Value} {od0 an0 : Option Addr} {sl0 : Array (Option Value)} {f0 : Addr}
    {oc1 kV1 dc1 pm1 cd1 ct1 : Value} {od1 an1 : Option Addr} {sl1 : Array (Option Value)} {f1 : Addr}
    {oc2 kV2 dc2 pm2 cd2 ct2 : Value} {od2 an2 : Option Addr} {sl2 : Array (Option Value)} {f2 : Addr}
    {oc3 kV3 dc3 pm3 cd3 ct3 : Value} {od3 an3 : Option Addr} {sl3 : Array (Option Value)} {f3 : Addr}
    {oc4 kV4 dc4 pm4 cd4 ct4 : Value} {od4 an4 : Option Addr} {sl4 : Array (Option Value)} {f4 : Addr}
    {oc5 kV5 dc5 pm5 cd5 ct5 : Value} {od5 an5 : Option Addr} {sl5 : Array (Option Value)} {f5 : Addr}
    {oc6 kV6 dc6 pm6 cd6 ct6 : Value} {od6 an6 : Option Addr} {sl6 : Array (Option Value)} {f6 : Addr}
    {oc7 kV7 dc7 pm7 cd7 ct7 : Value} {od7 an7 : Option Addr} {sl7 : Array (Option Value)} {f7 : Addr}
    {oc8 kV8 dc8 pm8 cd8 ct8 : Value} {od8 an8 : Option Addr} {sl8 : Array (Option Value)} {f8 : Addr}
    {oc9 kV9 dc9 pm9 cd9 ct9 : Value} {od9 an9 : Option Addr} {sl9 : Array (Option Value)} {f9 : Addr}
    {oc10 kV10 dc10 pm10 cd10 ct10 : Value} {od10 an10 : Option Addr} {sl10 : Array (Option Value)} {f10 : Addr}
    {oc11 kV11 dc11 pm11 cd11 ct11 : Value} {od11 an11 : Option Addr} {sl11 : Array (Option Value)} {f11 : Addr}
    {oc12 kV12 dc12 pm12 cd12 ct12 : Value} {od12 an12 : Option Addr} {sl12 : Array (Option Value)} {f12 : Addr}
    {oc13 kV13 dc13 pm13 cd13 ct13 : Value} {od13 an13 : Option Addr} {sl13 : Array (Option Value)} {f13 : Addr}
    {oc14 kV14 dc14 pm14 cd14 ct14 : Value} {od14 an14 : Option Addr} {sl14 : Array (Option Value)} {f14 : Addr}
    {oc15 kV15 dc15 pm15 cd15 ct15 : Value} {od15 an15 : Option Addr} {sl15 : Array (Option Value)} {f15 : Addr}
    {oc16 kV16 dc16 pm16 cd16 ct16 : Value} {od16 an16 : Option Addr} {sl16 : Array (Option Value)} {f16 : Addr}
    {oc17 kV17 dc17 pm17 cd17 ct17 : Value} {od17 an17 : Option Addr} {sl17 : Array (Option Value)} {f17 : Addr}
    {oc18 kV18 dc18 pm18 cd18 ct18 : Value} {od18 an18 : Option Addr} {sl18 : Array (Option Value)} {f18 : Addr}
    {oc19 kV19 dc19 pm19 cd19 ct19 : Value} {od19 an19 : Option Addr} {sl19 : Array (Option Value)} {f19 : Addr}
    {oc20 kV20 dc20 pm20 cd20 ct20 : Value} {od20 an20 : Option Addr} {sl20 : Array (Option Value)} {f20 : Addr}
    {oc21 kV21 dc21 pm21 cd21 ct21 : Value} {od21 an21 : Option Addr} {sl21 : Array (Option Value)} {f21 : Addr}
    {oc22 kV22 dc22 pm22 cd22 ct22 : Value} {od22 an22 : Option Addr} {sl22 : Array (Option Value)} {f22 : Addr}
    {oc23 kV23 dc23 pm23 cd23 ct23 : Value} {od23 an23 : Option Addr} {sl23 : Array (Option Value)} {f23 : Addr}
    {oc24 kV24 dc24 pm24 cd24 ct24 : Value} {od24 an24 : Option Addr} {sl24 : Array (Option Value)} {f24 : Addr}
    {oc25 kV25 dc25 pm25 cd25 ct25 : Value} {od25 an25 : Option Addr} {sl25 : Array (Option Value)} {f25 : Addr}
    {oc26 kV26 dc26 pm26 cd26 ct26 : Value} {od26 an26 : Option Addr} {sl26 : Array (Option Value)} {f26 : Addr}
    {oc27 kV27 dc27 pm27 cd27 ct27 : Value} {od27 an27 : Option Addr} {sl27 : Array (Option Value)} {f27 : Addr}
    {oc28 kV28 dc28 pm28 cd28 ct28 : Value} {od28 an28 : Option Addr} {sl28 : Array (Option Value)} {f28 : Addr}
    {cc26 PP26 : Addr} {ck26 : Value} {cm26 : Option Addr} {cv26 : Array Value} {cs26 : Array (Option Value)}
    {cc27 PP27 : Addr} {ck27 : Value} {cm27 : Option Addr} {cv27 : Array Value} {cs27 : Array (Option Value)}
    {RR : Addr}
    {E0 : Addr}
    {E1 : Addr}
    {E2 : Addr}
    {um2 uq2 : Str} {uN2 : Addr} {ub2 uc2 : List Value} {us2 : List Str} {uu2 : List Value} {ua2 : Bool} {uo2 : Option Bool} {ud2 : Option Addr} {u02 u12 u22 u32 u52 : Option Value} {vf2 ve2 vx2 : Addr} {vo2 vk2 vc2 vm2 vt2 : Value} {vd2 va2 : Option Addr} {vs2 : Array (Option Value)} {wc2 : Value} {wd2 : Option Addr} {wv2 : Array Value} {ws2 : Array (Option Value)} {wf2 : Str} {wt2 : Tok} {xl2_ : Value} {xd2_ : Option Addr} {xs2_ : Array (Option Value)}
    {ti_MOST_BELOW : Tok}
    {ti_MOST_NUMBERS : Tok}
    (a0 : PySem.W.nsIn K mainGlobals "_law_begun" = some (some (.ref f0)))
    (l0 : K.lookup f0 = some ⟨oc0, od0, .func (PySem.W.fnOf "_law_begun" "_law_begun" (defArgs st__law_begun) (defBody st__law_begun) (defScope st__law_begun) .none kV0 dc0 pm0 an0 cd0 ct0), sl0⟩)
    (c0 : PySem.W.codeIn K cd0 "_law_begun" = true)
    (k0 : PySem.W.keepIn K (.ref f0) = true)
    (a1 : PySem.W.nsIn K mainGlobals "_law_mixed" = some (some (.ref f1)))
    (l1 : K.lookup f1 = some ⟨oc1, od1, .func (PySem.W.fnOf "_law_mixed" "_law_mixed" (defArgs st__law_mixed) (defBody st__law_mixed) (defScope st__law_mixed) .none kV1 dc1 pm1 an1 cd1 ct1), sl1⟩)
    (c1 : PySem.W.codeIn K cd1 "_law_mixed" = true)
    (k1 : PySem.W.keepIn K (.ref f1) = true)
    (a2 : PySem.W.nsIn K mainGlobals "_law_take" = some (some (.ref f2)))
    (l2 : K.lookup f2 = some ⟨oc2, od2, .func (PySem.W.fnOf "_law_take" "_law_take" (defArgs st__law_take) (defBody st__law_take) (defScope st__law_take) .none kV2 dc2 pm2 an2 cd2 ct2), sl2⟩)
    (c2 : PySem.W.codeIn K cd2 "_law_take" = true)
    (k2 : PySem.W.keepIn K (.ref f2) = true)
    (a3 : PySem.W.nsIn K mainGlobals "_law_pick" = some (some (.ref f3)))
    (l3 : K.lookup f3 = some ⟨oc3, od3, .func (PySem.W.fnOf "_law_pick" "_law_pick" (defArgs st__law_pick) (defBody st__law_pick) (defScope st__law_pick) .none kV3 dc3 pm3 an3 cd3 ct3), sl3⟩)
    (c3 : PySem.W.codeIn K cd3 "_law_pick" = true)
    (k3 : PySem.W.keepIn K (.ref f3) = true)
    (a4 : PySem.W.nsIn K mainGlobals "_law_common" = some (some (.ref f4)))
    (l4 : K.lookup f4 = some ⟨oc4, od4, .func (PySem.W.fnOf "_law_common" "_law_common" (defArgs st__law_common) (defBody st__law_common) (defScope st__law_common) .none kV4 dc4 pm4 an4 cd4 ct4), sl4⟩)
    (c4 : PySem.W.codeIn K cd4 "_law_common" = true)
    (k4 : PySem.W.keepIn K (.ref f4) = true)
    (a5 : PySem.W.nsIn K mainGlobals "_law_free" = some (some (.ref f5)))
    (l5 : K.lookup f5 = some ⟨oc5, od5, .func (PySem.W.fnOf "_law_free" "_law_free" (defArgs st__law_free) (defBody st__law_free) (defScope st__law_free) .none kV5 dc5 pm5 an5 cd5 ct5), sl5⟩)
    (c5 : PySem.W.codeIn K cd5 "_law_free" = true)
    (k5 : PySem.W.keepIn K (.ref f5) = true)
    (a6 : PySem.W.nsIn K mainGlobals "_law_pair" = some (some (.ref f6)))
    (l6 : K.lookup f6 = some ⟨oc6, od6, .func (PySem.W.fnOf "_law_pair" "_law_pair" (defArgs st__law_pair) (defBody st__law_pair) (defScope st__law_pair) .none kV6 dc6 pm6 an6 cd6 ct6), sl6⟩)
    (c6 : PySem.W.codeIn K cd6 "_law_pair" = true)
    (k6 : PySem.W.keepIn K (.ref f6) = true)
    (a7 : PySem.W.nsIn K mainGlobals "_law_fraction" = some (some (.ref f7)))
    (l7 : K.lookup f7 = some ⟨oc7, od7, .func (PySem.W.fnOf "_law_fraction" "_law_fraction" (defArgs st__law_fraction) (defBody st__law_fraction) (defScope st__law_fraction) .none kV7 dc7 pm7 an7 cd7 ct7), sl7⟩)
    (c7 : PySem.W.codeIn K cd7 "_law_fraction" = true)
    (k7 : PySem.W.keepIn K (.ref f7) = true)
    (a8 : PySem.W.nsIn K mainGlobals "_law_some_pair" = some (some (.ref f8)))
    (l8 : K.lookup f8 = some ⟨oc8, od8, .func (PySem.W.fnOf "_law_some_pair" "_law_some_pair" (defArgs st__law_some_pair) (defBody st__law_some_pair) (defScope st__law_some_pair) .none kV8 dc8 pm8 an8 cd8 ct8), sl8⟩)
    (c8 : PySem.W.codeIn K cd8 "_law_some_pair" = true)
    (k8 : PySem.W.keepIn K (.ref f8) = true)
    (a9 : PySem.W.nsIn K mainGlobals "_law_leg" = some (some (.ref f9)))
    (l9 : K.lookup f9 = some ⟨oc9, od9, .func (PySem.W.fnOf "_law_leg" "_law_leg" (defArgs st__law_leg) (defBody st__law_leg) (defScope st__law_leg) .none kV9 dc9 pm9 an9 cd9 ct9), sl9⟩)
    (c9 : PySem.W.codeIn K cd9 "_law_leg" = true)
    (k9 : PySem.W.keepIn K (.ref f9) = true)
    (a10 : PySem.W.nsIn K mainGlobals "_law_word" = some (some (.ref f10)))
    (l10 : K.lookup f10 = some ⟨oc10, od10, .func (PySem.W.fnOf "_law_word" "_law_word" (defArgs st__law_word) (defBody st__law_word) (defScope st__law_word) .none kV10 dc10 pm10 an10 cd10 ct10), sl10⟩)
    (c10 : PySem.W.codeIn K cd10 "_law_word" = true)
    (k10 : PySem.W.keepIn K (.ref f10) = true)
    (a11 : PySem.W.nsIn K mainGlobals "is_tuple" = some (some (.ref f11)))
    (l11 : K.lookup f11 = some ⟨oc11, od11, .func (PySem.W.fnOf "is_tuple" "is_tuple" (defArgs st_is_tuple) (defBody st_is_tuple) (defScope st_is_tuple) .none kV11 dc11 pm11 an11 cd11 ct11), sl11⟩)
    (c11 : PySem.W.codeIn K cd11 "is_tuple" = true)
    (k11 : PySem.W.keepIn K (.ref f11) = true)
    (a12 : PySem.W.nsIn K mainGlobals "is_number" = some (some (.ref f12)))
    (l12 : K.lookup f12 = some ⟨oc12, od12, .func (PySem.W.fnOf "is_number" "is_number" (defArgs st_is_number) (defBody st_is_number) (defScope st_is_number) .none kV12 dc12 pm12 an12 cd12 ct12), sl12⟩)
    (c12 : PySem.W.codeIn K cd12 "is_number" = true)
    (k12 : PySem.W.keepIn K (.ref f12) = true)
    (a13 : PySem.W.nsIn K mainGlobals "is_pair" = some (some (.ref f13)))
    (l13 : K.lookup f13 = some ⟨oc13, od13, .func (PySem.W.fnOf "is_pair" "is_pair" (defArgs st_is_pair) (defBody st_is_pair) (defScope st_is_pair) .none kV13 dc13 pm13 an13 cd13 ct13), sl13⟩)
    (c13 : PySem.W.codeIn K cd13 "is_pair" = true)
    (k13 : PySem.W.keepIn K (.ref f13) = true)
    (a14 : PySem.W.nsIn K mainGlobals "need_pair" = some (some (.ref f14)))
    (l14 : K.lookup f14 = some ⟨oc14, od14, .func (PySem.W.fnOf "need_pair" "need_pair" (defArgs st_need_pair) (defBody st_need_pair) (defScope st_need_pair) .none kV14 dc14 pm14 an14 cd14 ct14), sl14⟩)
    (c14 : PySem.W.codeIn K cd14 "need_pair" = true)
    (k14 : PySem.W.keepIn K (.ref f14) = true)
    (a15 : PySem.W.nsIn K mainGlobals "leg_numbers" = some (some (.ref f15)))
    (l15 : K.lookup f15 = some ⟨oc15, od15, .func (PySem.W.fnOf "leg_numbers" "leg_numbers" (defArgs st_leg_numbers) (defBody st_leg_numbers) (defScope st_leg_numbers) .none kV15 dc15 pm15 an15 cd15 ct15), sl15⟩)
    (c15 : PySem.W.codeIn K cd15 "leg_numbers" = true)
    (k15 : PySem.W.keepIn K (.ref f15) = true)
    (a16 : PySem.W.nsIn K mainGlobals "points_of" = some (some (.ref f16)))
    (l16 : K.lookup f16 = some ⟨oc16, od16, .func (PySem.W.fnOf "points_of" "points_of" (defArgs st_points_of) (defBody st_points_of) (defScope st_points_of) .none kV16 dc16 pm16 an16 cd16 ct16), sl16⟩)
    (c16 : PySem.W.codeIn K cd16 "points_of" = true)
    (k16 : PySem.W.keepIn K (.ref f16) = true)
    (a17 : PySem.W.nsIn K mainGlobals "leg_points" = some (some (.ref f17)))
    (l17 : K.lookup f17 = some ⟨oc17, od17, .func (PySem.W.fnOf "leg_points" "leg_points" (defArgs st_leg_points) (defBody st_leg_points) (defScope st_leg_points) .none kV17 dc17 pm17 an17 cd17 ct17), sl17⟩)
    (c17 : PySem.W.codeIn K cd17 "leg_points" = true)
    (k17 : PySem.W.keepIn K (.ref f17) = true)
    (a18 : PySem.W.nsIn K mainGlobals "is_point_of" = some (some (.ref f18)))
    (l18 : K.lookup f18 = some ⟨oc18, od18, .func (PySem.W.fnOf "is_point_of" "is_point_of" (defArgs st_is_point_of) (defBody st_is_point_of) (defScope st_is_point_of) .none kV18 dc18 pm18 an18 cd18 ct18), sl18⟩)
    (c18 : PySem.W.codeIn K cd18 "is_point_of" = true)
    (k18 : PySem.W.keepIn K (.ref f18) = true)
    (a19 : PySem.W.nsIn K mainGlobals "point_sum" = some (some (.ref f19)))
    (l19 : K.lookup f19 = some ⟨oc19, od19, .func (PySem.W.fnOf "point_sum" "point_sum" (defArgs st_point_sum) (defBody st_point_sum) (defScope st_point_sum) .none kV19 dc19 pm19 an19 cd19 ct19), sl19⟩)
    (c19 : PySem.W.codeIn K cd19 "point_sum" = true)
    (k19 : PySem.W.keepIn K (.ref f19) = true)
    (a20 : PySem.W.nsIn K mainGlobals "_law_least" = some (some (.ref f20)))
    (l20 : K.lookup f20 = some ⟨oc20, od20, .func (PySem.W.fnOf "_law_least" "_law_least" (defArgs st__law_least) (defBody st__law_least) (defScope st__law_least) .none kV20 dc20 pm20 an20 cd20 ct20), sl20⟩)
    (c20 : PySem.W.codeIn K cd20 "_law_least" = true)
    (k20 : PySem.W.keepIn K (.ref f20) = true)
    (a21 : PySem.W.nsIn K mainGlobals "_law_list_right" = some (some (.ref f21)))
    (l21 : K.lookup f21 = some ⟨oc21, od21, .func (PySem.W.fnOf "_law_list_right" "_law_list_right" (defArgs st__law_list_right) (defBody st__law_list_right) (defScope st__law_list_right) .none kV21 dc21 pm21 an21 cd21 ct21), sl21⟩)
    (c21 : PySem.W.codeIn K cd21 "_law_list_right" = true)
    (k21 : PySem.W.keepIn K (.ref f21) = true)
    (a22 : PySem.W.nsIn K mainGlobals "_law_says" = some (some (.ref f22)))
    (l22 : K.lookup f22 = some ⟨oc22, od22, .func (PySem.W.fnOf "_law_says" "_law_says" (defArgs st__law_says) (defBody st__law_says) (defScope st__law_says) .none kV22 dc22 pm22 an22 cd22 ct22), sl22⟩)
    (c22 : PySem.W.codeIn K cd22 "_law_says" = true)
    (k22 : PySem.W.keepIn K (.ref f22) = true)
    (a23 : PySem.W.nsIn K mainGlobals "is_point" = some (some (.ref f23)))
    (l23 : K.lookup f23 = some ⟨oc23, od23, .func (PySem.W.fnOf "is_point" "is_point" (defArgs st_is_point) (defBody st_is_point) (defScope st_is_point) .none kV23 dc23 pm23 an23 cd23 ct23), sl23⟩)
    (c23 : PySem.W.codeIn K cd23 "is_point" = true)
    (k23 : PySem.W.keepIn K (.ref f23) = true)
    (a24 : PySem.W.nsIn K mainGlobals "_law_is_number" = some (some (.ref f24)))
    (l24 : K.lookup f24 = some ⟨oc24, od24, .func (PySem.W.fnOf "_law_is_number" "_law_is_number" (defArgs st__law_is_number) (defBody st__law_is_number) (defScope st__law_is_number) .none kV24 dc24 pm24 an24 cd24 ct24), sl24⟩)
    (c24 : PySem.W.codeIn K cd24 "_law_is_number" = true)
    (k24 : PySem.W.keepIn K (.ref f24) = true)
    (a25 : PySem.W.nsIn K mainGlobals "_law_sums_right" = some (some (.ref f25)))
    (l25 : K.lookup f25 = some ⟨oc25, od25, .func (PySem.W.fnOf "_law_sums_right" "_law_sums_right" (defArgs st__law_sums_right) (defBody st__law_sums_right) (defScope st__law_sums_right) .none kV25 dc25 pm25 an25 cd25 ct25), sl25⟩)
    (c25 : PySem.W.codeIn K cd25 "_law_sums_right" = true)
    (k25 : PySem.W.keepIn K (.ref f25) = true)
    (a26 : PySem.W.nsIn K mainGlobals "_law_refused" = some (some (.ref f26)))
    (l26 : K.lookup f26 = some ⟨oc26, od26, .func (PySem.W.fnOf "_law_refused" "_law_refused" (defArgs st__law_refused) (defBody st__law_refused) (defScope st__law_refused) .none kV26 dc26 pm26 an26 cd26 ct26), sl26⟩)
    (c26 : PySem.W.codeIn K cd26 "_law_refused" = true)
    (k26 : PySem.W.keepIn K (.ref f26) = true)
    (ce26 : cd26 = .ref cc26)
    (ct_26 : K.lookup cc26 = some ⟨ck26, cm26, .fields cv26, cs26⟩)
    (cp26 : cv26[11]? = some (.ref PP26))
    (n26 : K.lookup PP26 = none)
    (a27 : PySem.W.nsIn K mainGlobals "law" = some (some (.ref f27)))
    (l27 : K.lookup f27 = some ⟨oc27, od27, .func (PySem.W.fnOf "law" "law" (defArgs st_law) (defBody st_law) (defScope st_law) .none kV27 dc27 pm27 an27 cd27 ct27), sl27⟩)
    (c27 : PySem.W.codeIn K cd27 "law" = true)
    (k27 : PySem.W.keepIn K (.ref f27) = true)
    (ce27 : cd27 = .ref cc27)
    (ct_27 : K.lookup cc27 = some ⟨ck27, cm27, .fields cv27, cs27⟩)
    (cp27 : cv27[11]? = some (.ref PP27))
    (n27 : K.lookup PP27 = none)
    (a28 : PySem.W.nsIn K mainGlobals "_law_caught" = some (some (.ref f28)))
    (l28 : K.lookup f28 = some ⟨oc28, od28, .func (PySem.W.fnOf "_law_caught" "_law_caught" (defArgs st__law_caught) (defBody st__law_caught) (defScope st__law_caught) .none kV28 dc28 pm28 an28 cd28 ct28), sl28⟩)
    (c28 : PySem.W.codeIn K cd28 "_law_caught" = true)
    (k28 : PySem.W.keepIn K (.ref f28) = true)
    (d26_27 : PP26 ≠ PP27)
    (aR : PySem.W.nsIn K mainGlobals "RingError" = some (some (.ref RR)))
    (bR : PySem.W.subIn K (.ref RR) (.type "BaseException") = some true)
    (dR : PySem.W.hasDictIn K RR = true)
    (tR : PySem.W.typeIn K (.ref RR) = some (.type "type"))
    (eA0 : PySem.W.nsIn K mainGlobals "BadPair" = some (some (.ref E0)))
    (eq0 : PySem.W.excIn K E0 [.type "ValueError", .type "Exception", .type "BaseException", .type "object"] "ValueError.__new__" = true)
    (ek0 : PySem.W.keepIn K (.ref E0) = true)
    (eb0 : PySem.W.subIn K (.ref E0) (.type "BaseException") = some true)
    (et0 : PySem.W.typeIn K (.ref E0) = some (.type "type"))
    (er0 : PySem.W.subIn K (.ref E0) (.ref RR) = some true)
    (eg0 : PySem.W.findIn K (.ref E0) "__getattribute__" = some (some (.builtin "BaseException.__getattribute__")))
    (eh0 : PySem.W.findIn K (.ref E0) "__getattr__" = some none)
    (ed0 : PySem.W.hasDictIn K E0 = true)
    (ec0 : PySem.W.findIn K (.ref E0) "__class__" = some (some (.builtin "object.__class__")))
    (em0 : PySem.W.mroIn K E0 (.type "object") = some true)
    (eA1 : PySem.W.nsIn K mainGlobals "BadPoint" = some (some (.ref E1)))
    (eq1 : PySem.W.excIn K E1 [.type "ValueError", .type "Exception", .type "BaseException", .type "object"] "ValueError.__new__" = true)
    (ek1 : PySem.W.keepIn K (.ref E1) = true)
    (eb1 : PySem.W.subIn K (.ref E1) (.type "BaseException") = some true)
    (et1 : PySem.W.typeIn K (.ref E1) = some (.type "type"))
    (er1 : PySem.W.subIn K (.ref E1) (.ref RR) = some true)
    (eg1 : PySem.W.findIn K (.ref E1) "__getattribute__" = some (some (.builtin "BaseException.__getattribute__")))
    (eh1 : PySem.W.findIn K (.ref E1) "__getattr__" = some none)
    (ed1 : PySem.W.hasDictIn K E1 = true)
    (ec1 : PySem.W.findIn K (.ref E1) "__class__" = some (some (.builtin "object.__class__")))
    (em1 : PySem.W.mroIn K E1 (.type "object") = some true)
    (eA2 : PySem.W.nsIn K mainGlobals "TooMany" = some (some (.ref E2)))
    (ek2 : PySem.W.keepIn K (.ref E2) = true)
    (eu2 : K.lookup E2 = some (excClassObj um2 uq2 E2 uN2 ub2 uc2 true us2 uu2 ua2 uo2 ud2 u02 u12 u22 u32 u52 "ValueError.__new__"))
    (ev2 : PySem.HandSPX.refsVE uc2 = true)
    (ew2 : PySem.W.ks_superIn K E2 E2 "__init__" = some (some (.builtin "ValueError.__init__")))
    (ex2 : PySem.W.findIn K (.ref E2) "__setattr__" = some (some (.builtin "object.__setattr__")))
    (ey2 : PySem.W.findIn K (.ref E2) "most" = some none)
    (ez2 : PySem.W.mroIn K E2 (.ref E2) = some true)
    (ea2 : PySem.W.subIn K (.ref E2) (.type "ValueError") = some true)
    (ei2 : PySem.W.findIn K (.ref E2) "__init__" = some (some (.ref vf2)))
    (ej2 : PySem.W.typeIn K (.ref vf2) = some (.type "function"))
    (el2 : K.lookup vf2 = some ⟨vo2, vd2, .func (PySem.W.ksFn "__init__" "TooMany.__init__" (defArgs st_TooMany) (defBody st_TooMany) (defScope st_TooMany) .none vk2 vc2 vm2 va2 (.ref ve2) vt2 vx2), vs2⟩)
    (eo2 : PySem.W.codeIn K (.ref ve2) "TooMany.__init__" = true)
    (ep2 : K.lookup ve2 = some ⟨wc2, wd2, .fields wv2, ws2⟩)
    (es2 : wv2[2]? = some (.str wf2 wt2))
    (ef2 : ((l.prog.main.file : Str) == wf2) = true)
    (en2 : K.lookup vx2 = some ⟨xl2_, xd2_, .cell (some (.ref E2)), xs2_⟩)
    (eb2 : PySem.W.subIn K (.ref E2) (.type "BaseException") = some true)
    (et2 : PySem.W.typeIn K (.ref E2) = some (.type "type"))
    (er2 : PySem.W.subIn K (.ref E2) (.ref RR) = some true)
    (eg2 : PySem.W.findIn K (.ref E2) "__getattribute__" = some (some (.builtin "BaseException.__getattribute__")))
    (eh2 : PySem.W.findIn K (.ref E2) "__getattr__" = some none)
    (ed2 : PySem.W.hasDictIn K E2 = true)
    (ec2 : PySem.W.findIn K (.ref E2) "__class__" = some (some (.builtin "object.__class__")))
    (em2 : PySem.W.mroIn K E2 (.type "object") = some true)
    (hst : PySem.W.nsIn K cStatics "thirdparty.any" = some none)
    (hsu : PySem.W.nsIn K mainGlobals "super" = some none)
    (hsm : (l.prog.main.scope.names.lookup ("super" : Str)).isSome = false)
    (icE0 : PySem.W.isClsIn K E0 = true)
    (tcE0 : PySem.W.typeIn K (.ref E0) = some (.type "type"))
    (cbE0_int : PySem.W.mroIn K E0 (.type "int") = some false)
    (cbE0_bool : PySem.W.mroIn K E0 (.type "bool") = some false)
    (cbE0_tuple : PySem.W.mroIn K E0 (.type "tuple") = some false)
    (cbE0_list : PySem.W.mroIn K E0 (.type "list") = some false)
    (cbE0_str : PySem.W.mroIn K E0 (.type "str") = some false)
    (cbE0_dict : PySem.W.mroIn K E0 (.type "dict") = some false)
    (cbE0_float : PySem.W.mroIn K E0 (.type "float") = some false)
    (ccE0_E0 : PySem.W.mroIn K E0 (.ref E0) = some true)
    (ccE0_E1 : PySem.W.mroIn K E1 (.ref E0) = some false)
    (ccE0_E2 : PySem.W.mroIn K E2 (.ref E0) = some false)
    (icE1 : PySem.W.isClsIn K E1 = true)
    (tcE1 : PySem.W.typeIn K (.ref E1) = some (.type "type"))
    (cbE1_int : PySem.W.mroIn K E1 (.type "int") = some false)
    (cbE1_bool : PySem.W.mroIn K E1 (.type "bool") = some false)
    (cbE1_tuple : PySem.W.mroIn K E1 (.type "tuple") = some false)
    (cbE1_list : PySem.W.mroIn K E1 (.type "list") = some false)
    (cbE1_str : PySem.W.mroIn K E1 (.type "str") = some false)
    (cbE1_dict : PySem.W.mroIn K E1 (.type "dict") = some false)
    (cbE1_float : PySem.W.mroIn K E1 (.type "float") = some false)
    (ccE1_E0 : PySem.W.mroIn K E0 (.ref E1) = some false)
    (ccE1_E1 : PySem.W.mroIn K E1 (.ref E1) = some true)
    (ccE1_E2 : PySem.W.mroIn K E2 (.ref E1) = some false)
    (icE2 : PySem.W.isClsIn K E2 = true)
    (tcE2 : PySem.W.typeIn K (.ref E2) = some (.type "type"))
    (cbE2_int : PySem.W.mroIn K E2 (.type "int") = some false)
    (cbE2_bool : PySem.W.mroIn K E2 (.type "bool") = some false)
    (cbE2_tuple : PySem.W.mroIn K E2 (.type "tuple") = some false)
    (cbE2_list : PySem.W.mroIn K E2 (.type "list") = some false)
    (cbE2_str : PySem.W.mroIn K E2 (.type "str") = some false)
    (cbE2_dict : PySem.W.mroIn K E2 (.type "dict") = some false)
    (cbE2_float : PySem.W.mroIn K E2 (.type "float") = some false)
    (ccE2_E0 : PySem.W.mroIn K E0 (.ref E2) = some false)
    (ccE2_E1 : PySem.W.mroIn K E1 (.ref E2) = some false)
    (ccE2_E2 : PySem.W.mroIn K E2 (.ref E2) = some true)
    (hn : PySem.W.specialIn K (.builtin "object.__class__") "__get__" = some (some (.builtin "getset_descriptor.__get__")))
    (htk : PySem.W.takesIn K (.builtin "object.__class__") = some true)
    (zb_abs : PySem.W.nsIn K mainGlobals "abs" = some none)
    (zb_bool : PySem.W.nsIn K mainGlobals "bool" = some none)
    (zb_enumerate : PySem.W.nsIn K mainGlobals "enumerate" = some none)
    (zb_int : PySem.W.nsIn K mainGlobals "int" = some none)
    (zb_isinstance : PySem.W.nsIn K mainGlobals "isinstance" = some none)
    (zb_len : PySem.W.nsIn K mainGlobals "len" = some none)
    (zb_list : PySem.W.nsIn K mainGlobals "list" = some none)
    (zb_max : PySem.W.nsIn K mainGlobals "max" = some none)
    (zb_min : PySem.W.nsIn K mainGlobals "min" = some none)
    (zb_range : PySem.W.nsIn K mainGlobals "range" = some none)
    (zb_repr : PySem.W.nsIn K mainGlobals "repr" = some none)
    (zb_tuple : PySem.W.nsIn K mainGlobals "tuple" = some none)
    (zm_gcd : PySem.W.nsIn K mainGlobals "gcd" = some (some (.builtin "math.gcd")))
    (zi_MOST_BELOW : PySem.W.nsIn K mainGlobals "MOST_BELOW" = some (some (.int 1000000000000000000000000000000 ti_MOST_BELOW)))
    (zi_MOST_NUMBERS : PySem.W.nsIn K mainGlobals "MOST_NUMBERS" = some (some (.int 400 ti_MOST_NUMBERS))) :
    ∃ cs : List (Addr × Addr), cs.length = lqs.length ∧ (∀ p ∈ cs, ∃ x ∈ lxs, PySem.W.tabIn K x = some p) ∧ (∀ p ∈ cs, K.lookup p.2 = none) ∧ ∀ (mg : Str → Option Value) (fa : Addr) (h : Heap), K.In h → h.Ns mainGlobals mg → mg "law" = some (.ref fa) →
    ∃ fd : FuncData, (∀ (s : Shared) (u : Value), BindsTo s fd ⟨[u], []⟩ [(("script" : Str), u)]) ∧ ∀ base : Heap, K.In base → base.Ns mainGlobals mg → (∀ p ∈ cs, LamX.TabB base mg p.1 p.2) → FnD l.prog w K mg base 8 fa fd ["script"] (spL K ⟨(cs.map (·.2)).zip lqs, lmT⟩) := by
  obtain ⟨ca, hca⟩ := exists_ca ([(("_law_begun" : Str), f0), (("_law_mixed" : Str), f1), (("_law_take" : Str), f2), (("_law_pick" : Str), f3), (("_law_common" : Str), f4), (("_law_free" : Str), f5), (("_law_pair" : Str), f6), (("_law_fraction" : Str), f7), (("_law_some_pair" : Str), f8), (("_law_leg" : Str), f9), (("_law_word" : Str), f10), (("is_tuple" : Str), f11), (("is_number" : Str), f12), (("is_pair" : Str), f13), (("need_pair" : Str), f14), (("leg_numbers" : Str), f15), (("points_of" : Str), f16), (("leg_points" : Str), f17), (("is_point_of" : Str), f18), (("point_sum" : Str), f19), (("_law_least" : Str), f20), (("_law_list_right" : Str), f21), (("_law_says" : Str), f22), (("is_point" : Str), f23), (("_law_is_number" : Str), f24), (("_law_sums_right" : Str), f25), (("_law_refused" : Str), f26), (("law" : Str), f27), (("_law_caught" : Str), f28), (("RingError" : Str), RR), (("BadPair" : Str), E0), (("BadPoint" : Str), E1), (("TooMany" : Str), E2)] : List (Str × Addr)) (show ([("_law_begun" : Str), ("_law_mixed" : Str), ("_law_take" : Str), ("_law_pick" : Str), ("_law_common" : Str), ("_law_free" : Str), ("_law_pair" : Str), ("_law_fraction" : Str), ("_law_some_pair" : Str), ("_law_leg" : Str), ("_law_word" : Str), ("is_tuple" : Str), ("is_number" : Str), ("is_pair" : Str), ("need_pair" : Str), ("leg_numbers" : Str), ("points_of" : Str), ("leg_points" : Str), ("is_point_of" : Str), ("point_sum" : Str), ("_law_least" : Str), ("_law_list_right" : Str), ("_law_says" : Str), ("is_point" : Str), ("_law_is_number" : Str), ("_law_sums_right" : Str), ("_law_refused" : Str), ("law" : Str), ("_law_caught" : Str), ("RingError" : Str), ("BadPair" : Str), ("BadPoint" : Str), ("TooMany" : Str)] : List Str).Nodup by decide +kernel)
  obtain ⟨e0, e1, e2, e3, e4, e5, e6, e7, e8, e9, e10, e11, e12, e13, e14, e15, e16, e17, e18, e19, e20, e21, e22, e23, e24, e25, e26, e27, e28, e29, e30, e31, e32, -⟩ := hca
  subst e0; subst e1; subst e2; subst e3; subst e4; subst e5; subst e6; subst e7; subst e8; subst e9; subst e10; subst e11; subst e12; subst e13; subst e14; subst e15; subst e16; subst e17; subst e18; subst e19; subst e20; subst e21; subst e22; subst e23; subst e24; subst e25; subst e26; subst e27; subst e28; subst e29; subst e30; subst e31; subst e32
  subst ce26
  have t26 := tab_mk a26 l26 rfl ct_26 cp26
  subst ce27
  have t27 := tab_mk a27 l27 rfl ct_27 cp27
  refine ⟨[(cc26, PP26), (cc27, PP27)], rfl, ?_, ?_, fun mg fa h X G hfa => ?_⟩
  · intro p hp
    simp only [List.mem_cons, List.mem_nil_iff, or_false] at hp
    rcases hp with rfl | rfl
    · exact ⟨_, (by simp [lxs]), t26⟩
    · exact ⟨_, (by simp [lxs]), t27⟩
  · intro p hp
    simp only [List.mem_cons, List.mem_nil_iff, or_false] at hp
    rcases hp with rfl | rfl
    · exact n26
    · exact n27
  have el := hfa.symm.trans (PySem.W.mg_of X G a27)
  cases el
  refine ⟨PySem.W.fnOf "law" "law" (defArgs st_law) (defBody st_law) (defScope st_law) .none kV27 dc27 pm27 an27 (.ref cc27) ct27, fun s u => .of_eq rfl, fun base _ _ TB => ?_⟩
  change FnD l.prog w K mg base 8 _ _ ["script"] (spL K (Lm [(PP26, lamQ "_law_refused" st__law_refused), (PP27, lamQ "law" st_law)]))
  have mem26 : (PP26, lamQ "_law_refused" st__law_refused) ∈ (Lm [(PP26, lamQ "_law_refused" st__law_refused), (PP27, lamQ "law" st_law)]).T := by exact List.Mem.head _
  have unq26 : ∀ p ∈ (Lm [(PP26, lamQ "_law_refused" st__law_refused), (PP27, lamQ "law" st_law)]).T, p.1 = PP26 → p.2 = lamQ "_law_refused" st__law_refused := by
    intro p hp e
    change p ∈ ([(PP26, lamQ "_law_refused" st__law_refused), (PP27, lamQ "law" st_law)] : List (Addr × Str)) at hp
    simp only [List.mem_cons, List.mem_nil_iff, or_false] at hp
    rcases hp with rfl | rfl
    · rfl
    · exact absurd e (Ne.symm d26_27)
  have tbb26 : LamX.TabB base mg cc26 PP26 := TB (cc26, PP26) (by exact List.Mem.head _)
  have mem27 : (PP27, lamQ "law" st_law) ∈ (Lm [(PP26, lamQ "_law_refused" st__law_refused), (PP27, lamQ "law" st_law)]).T := by exact List.Mem.tail _ (.head _)
  have unq27 : ∀ p ∈ (Lm [(PP26, lamQ "_law_refused" st__law_refused), (PP27, lamQ "law" st_law)]).T, p.1 = PP27 → p.2 = lamQ "law" st_law := by
    intro p hp e
    change p ∈ ([(PP26, lamQ "_law_refused" st__law_refused), (PP27, lamQ "law" st_law)] : List (Addr × Str)) at hp
    simp only [List.mem_cons, List.mem_nil_iff, or_false] at hp
    rcases hp with rfl | rfl
    · exact absurd e d26_27
    · rfl
  have tbb27 : LamX.TabB base mg cc27 PP27 := TB (cc27, PP27) (by exact List.Mem.tail _ (.head _))
  have T : Txt l.prog K mg base ca [(PP26, lamQ "_law_refused" st__law_refused), (PP27, lamQ "law" st_law)] := {
    g__law_begun := PySem.W.mg_of X G a0,
    f__law_begun := ⟨_, fun_mk (st := st__law_begun) l0 c0 k0⟩,
    g__law_mixed := PySem.W.mg_of X G a1,
    f__law_mixed := ⟨_, fun_mk (st := st__law_mixed) l1 c1 k1⟩,
    g__law_take := PySem.W.mg_of X G a2,
    f__law_take := ⟨_, fun_mk (st := st__law_take) l2 c2 k2⟩,
    g__law_pick := PySem.W.mg_of X G a3,
    f__law_pick := ⟨_, fun_mk (st := st__law_pick) l3 c3 k3⟩,
    g__law_common := PySem.W.mg_of X G a4,
    f__law_common := ⟨_, fun_mk (st := st__law_common) l4 c4 k4⟩,
    g__law_free := PySem.W.mg_of X G a5,
    f__law_free := ⟨_, fun_mk (st := st__law_free) l5 c5 k5⟩,
    g__law_pair := PySem.W.mg_of X G a6,
    f__law_pair := ⟨_, fun_mk (st := st__law_pair) l6 c6 k6⟩,
    g__law_fraction := PySem.W.mg_of X G a7,
    f__law_fraction := ⟨_, fun_mk (st := st__law_fraction) l7 c7 k7⟩,
    g__law_some_pair := PySem.W.mg_of X G a8,
    f__law_some_pair := ⟨_, fun_mk (st := st__law_some_pair) l8 c8 k8⟩,
    g__law_leg := PySem.W.mg_of X G a9,
    f__law_leg := ⟨_, fun_mk (st := st__law_leg) l9 c9 k9⟩,
    g__law_word := PySem.W.mg_of X G a10,
    f__law_word := ⟨_, fun_mk (st := st__law_word) l10 c10 k10⟩,
    g_is_tuple := PySem.W.mg_of X G a11,
    f_is_tuple := ⟨_, fun_mk (st := st_is_tuple) l11 c11 k11⟩,
    g_is_number := PySem.W.mg_of X G a12,
    f_is_number := ⟨_, fun_mk (st := st_is_number) l12 c12 k12⟩,
    g_is_pair := PySem.W.mg_of X G a13,
    f_is_pair := ⟨_, fun_mk (st := st_is_pair) l13 c13 k13⟩,
    g_need_pair := PySem.W.mg_of X G a14,
    f_need_pair := ⟨_, fun_mk (st := st_need_pair) l14 c14 k14⟩,
    g_leg_numbers := PySem.W.mg_of X G a15,
    f_leg_numbers := ⟨_, fun_mk (st := st_leg_numbers) l15 c15 k15⟩,
    g_points_of := PySem.W.mg_of X G a16,
    f_points_of := ⟨_, fun_mk (st := st_points_of) l16 c16 k16⟩,
    g_leg_points := PySem.W.mg_of X G a17,
    f_leg_points := ⟨_, fun_mk (st := st_leg_points) l17 c17 k17⟩,
    g_is_point_of := PySem.W.mg_of X G a18,
    f_is_point_of := ⟨_, fun_mk (st := st_is_point_of) l18 c18 k18⟩,
    g_point_sum := PySem.W.mg_of X G a19,
    f_point_sum := ⟨_, fun_mk (st := st_point_sum) l19 c19 k19⟩,
    g__law_least := PySem.W.mg_of X G a20,
    f__law_least := ⟨_, fun_mk (st := st__law_least) l20 c20 k20⟩,
    g__law_list_right := PySem.W.mg_of X G a21,
    f__law_list_right := ⟨_, fun_mk (st := st__law_list_right) l21 c21 k21⟩,
    g__law_says := PySem.W.mg_of X G a22,
    f__law_says := ⟨_, fun_mk (st := st__law_says) l22 c22 k22⟩,
    g_is_point := PySem.W.mg_of X G a23,
    f_is_point := ⟨_, fun_mk (st := st_is_point) l23 c23 k23⟩,
    g__law_is_number := PySem.W.mg_of X G a24,
    f__law_is_number := ⟨_, fun_mk (st := st__law_is_number) l24 c24 k24⟩,
    g__law_sums_right := PySem.W.mg_of X G a25,
    f__law_sums_right := ⟨_, fun_mk (st := st__law_sums_right) l25 c25 k25⟩,
    g__law_refused := PySem.W.mg_of X G a26,
    lc__law_refused := ⟨⟨cc26, PP26, _, _, _, _, _, _, _, _, l26, c26, tbb26, mem26, unq26⟩, k26⟩,
    lc_law := ⟨⟨cc27, PP27, _, _, _, _, _, _, _, _, l27, c27, tbb27, mem27, unq27⟩, k27⟩,
    hn := hn,
    htk := htk,
    kt := ⟨by
      intro C hC U hU
      simp only [Cs, UsD, List.mem_cons, List.mem_nil_iff, or_false] at hC hU
      rcases hC with rfl | rfl | rfl <;> rcases hU with rfl | rfl | rfl | rfl | rfl | rfl | rfl | rfl
      · exact kitC rfl icE0 tcE0 rfl
      · exact kitC rfl icE0 tcE0 rfl
      · exact kitC rfl icE0 tcE0 rfl
      · exact kitC rfl icE0 tcE0 rfl
      · exact kitC rfl icE0 tcE0 rfl
      · exact kitC rfl icE0 tcE0 rfl
      · exact kitC rfl icE0 tcE0 rfl
      · exact kitC rfl icE0 tcE0 rfl
      · exact kitC rfl icE1 tcE1 rfl
      · exact kitC rfl icE1 tcE1 rfl
      · exact kitC rfl icE1 tcE1 rfl
      · exact kitC rfl icE1 tcE1 rfl
      · exact kitC rfl icE1 tcE1 rfl
      · exact kitC rfl icE1 tcE1 rfl
      · exact kitC rfl icE1 tcE1 rfl
      · exact kitC rfl icE1 tcE1 rfl
      · exact kitC rfl icE2 tcE2 rfl
      · exact kitC rfl icE2 tcE2 rfl
      · exact kitC rfl icE2 tcE2 rfl
      · exact kitC rfl icE2 tcE2 rfl
      · exact kitC rfl icE2 tcE2 rfl
      · exact kitC rfl icE2 tcE2 rfl
      · exact kitC rfl icE2 tcE2 rfl
      · exact kitC rfl icE2 tcE2 rfl
      , by
      intro C hC U hU
      simp only [Cs, TsD, List.mem_cons, List.mem_nil_iff, or_false] at hC hU
      rcases hC with rfl | rfl | rfl <;> rcases hU with rfl | rfl | rfl | rfl | rfl | rfl | rfl
      · exact kitCB rfl cbE0_int
      · exact kitCB rfl cbE0_bool
      · exact kitCB rfl cbE0_tuple
      · exact kitCB rfl cbE0_list
      · exact kitCB rfl cbE0_str
      · exact kitCB rfl cbE0_dict
      · exact kitCB rfl cbE0_float
      · exact kitCB rfl cbE1_int
      · exact kitCB rfl cbE1_bool
      · exact kitCB rfl cbE1_tuple
      · exact kitCB rfl cbE1_list
      · exact kitCB rfl cbE1_str
      · exact kitCB rfl cbE1_dict
      · exact kitCB rfl cbE1_float
      · exact kitCB rfl cbE2_int
      · exact kitCB rfl cbE2_bool
      · exact kitCB rfl cbE2_tuple
      · exact kitCB rfl cbE2_list
      · exact kitCB rfl cbE2_str
      · exact kitCB rfl cbE2_dict
      · exact kitCB rfl cbE2_float
      , by
      intro C hC C' hC'
      simp only [Cs, List.mem_cons, List.mem_nil_iff, or_false] at hC hC'
      rcases hC with rfl | rfl | rfl <;> rcases hC' with rfl | rfl | rfl
      · simpa using (kitCS (K := K) (C := ca "BadPair"))
      · exact kitCC icE0 tcE0 ccE0_E0 ccE0_E1
      · exact kitCC icE0 tcE0 ccE0_E0 ccE0_E2
      · exact kitCC icE1 tcE1 ccE1_E1 ccE1_E0
      · simpa using (kitCS (K := K) (C := ca "BadPoint"))
      · exact kitCC icE1 tcE1 ccE1_E1 ccE1_E2
      · exact kitCC icE2 tcE2 ccE2_E2 ccE2_E0
      · exact kitCC icE2 tcE2 ccE2_E2 ccE2_E1
      · simpa using (kitCS (K := K) (C := ca "TooMany"))⟩,
    cf := ⟨PySem.W.mg_of X G a28, ⟨_, fun_mk (st := st__law_caught) l28 c28 k28⟩, PySem.W.mg_of X G aR, by
      intro C hC
      simp only [Xs, List.mem_cons, List.mem_nil_iff, or_false] at hC
      rcases hC with rfl | rfl | rfl
      · exact PySem.W.exm_ref bR dR tR er0
      · exact PySem.W.exm_ref bR dR tR er1
      · exact PySem.W.exm_ref bR dR tR er2
      , by
      intro C hC
      simp only [Xs, List.mem_cons, List.mem_nil_iff, or_false] at hC
      rcases hC with rfl | rfl | rfl
      · exact ⟨eg0, eh0, eb0, ed0, ec0, hn, htk, em0⟩
      · exact ⟨eg1, eh1, eb1, ed1, ec1, hn, htk, em1⟩
      · exact ⟨eg2, eh2, eb2, ed2, ec2, hn, htk, em2⟩
      ⟩,
    x_BadPair := ⟨PySem.W.mg_of X G eA0, eq0, ek0, eb0, et0⟩,
    x_BadPoint := ⟨PySem.W.mg_of X G eA1, eq1, ek1, eb1, et1⟩,
    x_TooMany := ⟨⟨⟨_, _, _, _, _, _, _, _, _, _, _, _, _, _, _, eu2, ev2, sup_along eu2 ew2⟩, ex2, ey2, ez2, ea2, hst, ⟨vf2, vx2, ve2, _, _, _, _, _, _, _, _, _, _, _, _, _, _, _, _, _, _, _, _, _, _, _, _, _, _, _, _, _, _, _, _, _, _, ei2, ej2, el2, eo2, ep2, es2, ef2, hsm, en2, rfl, rfl, fun _ _ _ => .of_eq rfl, rfl, rfl, rfl, rfl, by decide, by decide, rfl, by decide +kernel, rfl, rfl, rfl⟩⟩, PySem.W.mg_of X G eA2, ek2, eb2, et2, PySem.W.mg_none_of X G hsu⟩,
    xf_most := ⟨by
      intro C hC
      simp only [Xs_most, List.mem_cons, List.mem_nil_iff, or_false] at hC
      rcases hC with rfl
      · exact ⟨eg2, eh2, eb2, ed2⟩
      , by
      intro C hC
      simp only [Xs_most, List.mem_cons, List.mem_nil_iff, or_false] at hC
      rcases hC with rfl
      · exact ey2
      ⟩,
    g_BadPair := PySem.W.mg_of X G eA0,
    g_BadPoint := PySem.W.mg_of X G eA1,
    g_TooMany := PySem.W.mg_of X G eA2,
    b_abs := PySem.W.mg_none_of X G zb_abs,
    b_bool := PySem.W.mg_none_of X G zb_bool,
    b_enumerate := PySem.W.mg_none_of X G zb_enumerate,
    b_int := PySem.W.mg_none_of X G zb_int,
    b_isinstance := PySem.W.mg_none_of X G zb_isinstance,
    b_len := PySem.W.mg_none_of X G zb_len,
    b_list := PySem.W.mg_none_of X G zb_list,
    b_max := PySem.W.mg_none_of X G zb_max,
    b_min := PySem.W.mg_none_of X G zb_min,
    b_range := PySem.W.mg_none_of X G zb_range,
    b_repr := PySem.W.mg_none_of X G zb_repr,
    b_tuple := PySem.W.mg_none_of X G zb_tuple,
    m_gcd := PySem.W.mg_of X G zm_gcd,
    i_MOST_BELOW := ⟨_, PySem.W.mg_of X G zi_MOST_BELOW⟩,
    i_MOST_NUMBERS := ⟨_, PySem.W.mg_of X G zi_MOST_NUMBERS⟩ }
  exact law_all T l27 c27 tbb27 mem27 unq27 (fun_mk (st := st__law_begun) l0 c0 k0) beg pure
end K12

set_option Elab.async false
set_option linter.all false
set_option maxRecDepth 100000
namespace K12
/-! legs: the plain law -/
inductive Leg : List Int → Int → Int → Prop
  | nil (a : Int) : Leg [] 0 a
  | cons {l : List Int} {w a n : Int} : 0 < w → n = (a + w - 1) / w → Leg l (n * w - a) w → Leg (n :: l) w a
theorem ceil_b {w a : Int} (hw : 0 < w) : 0 ≤ (a + w - 1) / w * w - a ∧ (a + w - 1) / w * w - a < w := by
  have h1 := Int.emod_add_mul_ediv (a + w - 1) w
  have h2 := Int.emod_nonneg (a + w - 1) (show w ≠ 0 by omega)
  have h3 := Int.emod_lt_of_pos (a + w - 1) hw
  rw [Int.mul_comm w] at h1
  omega
theorem ceil_eq {w a n : Int} (hw : 0 < w) (h0 : 0 ≤ n * w - a) (h1 : n * w - a < w) : (a + w - 1) / w = n := by
  have e : a + w - 1 = (w - 1 - (n * w - a)) + n * w := by omega
  rw [e, Int.add_mul_ediv_right _ _ (by omega), Int.ediv_eq_zero_of_lt (by omega) (by omega)]
  omega
theorem ceil_2 {w a : Int} (hw : 0 < w) (h : w < a) : 2 ≤ (a + w - 1) / w := by
  have := (ceil_b (a := a) hw).1
  by_cases c : 2 ≤ (a + w - 1) / w
  · exact c
  · exfalso
    have : (a + w - 1) / w * w ≤ 1 * w := Int.mul_le_mul_of_nonneg_right (by omega) (by omega)
    omega
theorem leg_ex : ∀ (k : Nat) {w a : Int}, 0 ≤ w → w.toNat ≤ k → ∃ l, Leg l w a
  | 0, w, a, h0, hk => by
    have : w = 0 := by omega
    subst this
    exact ⟨[], .nil a⟩
  | k + 1, w, a, h0, hk => by
    by_cases z : w = 0
    · subst z; exact ⟨[], .nil a⟩
    · have hw : 0 < w := by omega
      obtain ⟨b1, b2⟩ := ceil_b (a := a) hw
      obtain ⟨l, hl⟩ := leg_ex k (w := (a + w - 1) / w * w - a) (a := w) b1 (by omega)
      exact ⟨_, .cons hw rfl hl⟩
theorem Leg.uniq : ∀ {l m : List Int} {w a : Int}, Leg l w a → Leg m w a → l = m
  | _, _, _, _, .nil _, .nil _ => rfl
  | _, _, _, _, .nil _, .cons h _ _ => absurd h (by omega)
  | _, _, _, _, .cons h _ _, .nil _ => absurd h (by omega)
  | _, _, _, _, .cons _ e1 t1, .cons _ e2 t2 => by
    subst e1 e2
    rw [t1.uniq t2]
theorem Leg.inv {m : List Int} {w a : Int} (h : Leg m w a) (hw : 0 < w) : ∃ n t, m = n :: t ∧ n = (a + w - 1) / w ∧ Leg t (n * w - a) w := by
  cases h with
  | nil a => exact absurd hw (by omega)
  | cons _ e t => exact ⟨_, _, rfl, e, t⟩
def fr : List Int → Int × Int
  | [] => (0, 1)
  | n :: l => ((fr l).2, n * (fr l).2 - (fr l).1)
theorem gcd_step {w a n : Int} : Nat.gcd (n * w - a).natAbs w.natAbs = Nat.gcd w.natAbs a.natAbs := by
  have h1 : ∀ d : Int, d ∣ w → (d ∣ n * w - a ↔ d ∣ a) := fun d hd => by
    have h2 : d ∣ n * w := Int.dvd_trans hd (Int.dvd_mul_left _ _)
    constructor
    · intro h3
      have := Int.dvd_sub h2 h3
      rwa [show n * w - (n * w - a) = a by omega] at this
    · intro h3; exact Int.dvd_sub h2 h3
  refine Nat.dvd_antisymm (Nat.dvd_gcd (Nat.gcd_dvd_right _ _) ?_) (Nat.dvd_gcd ?_ (Nat.gcd_dvd_left _ _))
  · have a1 : ((Nat.gcd (n * w - a).natAbs w.natAbs : Nat) : Int) ∣ w := Int.ofNat_dvd_left.mpr (Nat.gcd_dvd_right _ _)
    have a2 : ((Nat.gcd (n * w - a).natAbs w.natAbs : Nat) : Int) ∣ n * w - a := Int.ofNat_dvd_left.mpr (Nat.gcd_dvd_left _ _)
    exact Int.ofNat_dvd_left.mp ((h1 _ a1).mp a2)
  · have a1 : ((Nat.gcd w.natAbs a.natAbs : Nat) : Int) ∣ w := Int.ofNat_dvd_left.mpr (Nat.gcd_dvd_left _ _)
    have a2 : ((Nat.gcd w.natAbs a.natAbs : Nat) : Int) ∣ a := Int.ofNat_dvd_left.mpr (Nat.gcd_dvd_right _ _)
    exact Int.ofNat_dvd_left.mp ((h1 _ a1).mpr a2)
def G2 (l : List Int) : Prop := ∀ n ∈ l, 2 ≤ n
theorem fr_b : ∀ {l : List Int}, G2 l → 0 ≤ (fr l).1 ∧ (fr l).1 < (fr l).2 ∧ Nat.gcd (fr l).1.natAbs (fr l).2.natAbs = 1
  | [], _ => ⟨by decide, by decide, by decide⟩
  | n :: l, h => by
    obtain ⟨h1, h2, h3⟩ := fr_b (l := l) fun x hx => h x (List.mem_cons_of_mem _ hx)
    have hn := h n List.mem_cons_self
    have h4 : 2 * (fr l).2 ≤ n * (fr l).2 := Int.mul_le_mul_of_nonneg_right hn (by omega)
    refine ⟨by show 0 ≤ (fr l).2; omega, by show (fr l).2 < n * (fr l).2 - (fr l).1; omega, ?_⟩
    show Nat.gcd (fr l).2.natAbs (n * (fr l).2 - (fr l).1).natAbs = 1
    rw [Nat.gcd_comm, gcd_step, Nat.gcd_comm]; exact h3
theorem fr_leg : ∀ {l : List Int}, G2 l → Leg l (fr l).1 (fr l).2
  | [], _ => .nil 1
  | n :: l, h => by
    have h' : G2 l := fun x hx => h x (List.mem_cons_of_mem _ hx)
    obtain ⟨h1, h2, _⟩ := fr_b h'
    refine .cons (by show 0 < (fr l).2; omega) ?_ ?_
    · show n = (n * (fr l).2 - (fr l).1 + (fr l).2 - 1) / (fr l).2
      exact (ceil_eq (by omega) (by omega) (by omega)).symm
    · show Leg l (n * (fr l).2 - (n * (fr l).2 - (fr l).1)) (fr l).2
      rw [show n * (fr l).2 - (n * (fr l).2 - (fr l).1) = (fr l).1 by omega]
      exact fr_leg h'
theorem leg_fr : ∀ {l : List Int} {w a : Int}, Leg l w a → 0 ≤ w → w < a → Nat.gcd w.natAbs a.natAbs = 1 → fr l = (w, a) ∧ G2 l
  | _, _, a, .nil _, _, h1, g => by
    have : a = 1 := by
      have : a.natAbs = 1 := by simpa using g
      omega
    subst this
    exact ⟨rfl, fun n hn => absurd hn (by simp)⟩
  | _, w, a, .cons (l := l) (n := n) hw e t, h0, h1, g => by
    obtain ⟨b1, b2⟩ := ceil_b (a := a) hw
    rw [← e] at b1 b2
    obtain ⟨f1, f2⟩ := leg_fr t b1 b2 (by rw [gcd_step]; exact g)
    refine ⟨?_, fun x hx => ?_⟩
    · show ((fr l).2, n * (fr l).2 - (fr l).1) = _
      rw [f1]
      show (w, n * w - (n * w - a)) = (w, a)
      rw [show n * w - (n * w - a) = a by omega]
    · rcases List.mem_cons.mp hx with rfl | hx
      · rw [e]; exact ceil_2 hw h1
      · exact f2 x hx
/-! ### turned about -/
def fq : List Int → Int × Int → Int × Int
  | [], q => q
  | n :: l, q => ((fq l q).2, n * (fq l q).2 - (fq l q).1)
theorem fq_fr : ∀ l : List Int, fq l (0, 1) = fr l
  | [] => rfl
  | n :: l => by show ((fq l (0, 1)).2, n * (fq l (0, 1)).2 - (fq l (0, 1)).1) = _; rw [fq_fr l]; rfl
theorem fq_app : ∀ (l m : List Int) (q : Int × Int), fq (l ++ m) q = fq l (fq m q)
  | [], _, _ => rfl
  | n :: l, m, q => by show ((fq (l ++ m) q).2, n * (fq (l ++ m) q).2 - (fq (l ++ m) q).1) = _; rw [fq_app l m q]; rfl
theorem fq_lin : ∀ (l : List Int) (n : Int), fq l (1, n) = (n * (fr l).1 - (fq l (-1, 0)).1, n * (fr l).2 - (fq l (-1, 0)).2)
  | [], n => by show ((1 : Int), n) = (n * 0 - (-1), n * 1 - 0); simp
  | m :: l, n => by
    show ((fq l (1, n)).2, m * (fq l (1, n)).2 - (fq l (1, n)).1) = (n * (fr l).2 - (fq l (-1, 0)).2, n * (m * (fr l).2 - (fr l).1) - (m * (fq l (-1, 0)).2 - (fq l (-1, 0)).1))
    rw [fq_lin l n]
    refine Prod.ext rfl ?_
    show m * (n * (fr l).2 - (fq l (-1, 0)).2) - (n * (fr l).1 - (fq l (-1, 0)).1) = _
    grind
theorem det1 : ∀ l : List Int, (fr l).1 * (fq l (-1, 0)).2 - (fr l).2 * (fq l (-1, 0)).1 = 1
  | [] => by decide
  | n :: l => by
    have h := det1 l
    show (fr l).2 * (n * (fq l (-1, 0)).2 - (fq l (-1, 0)).1) - (n * (fr l).2 - (fr l).1) * (fq l (-1, 0)).2 = 1
    grind
theorem rev4 : ∀ l : List Int, fr l.reverse = ((fq l (-1, 0)).2, (fr l).2) ∧ fq l.reverse (-1, 0) = ((fq l (-1, 0)).1, (fr l).1)
  | [] => ⟨rfl, rfl⟩
  | n :: l => by
    obtain ⟨h1, h2⟩ := rev4 l
    rw [List.reverse_cons]
    constructor
    · rw [← fq_fr, fq_app]
      have e : fq [n] (0, 1) = (1, n) := by show ((1 : Int), n * 1 - 0) = (1, n); simp
      rw [e, fq_lin, h1, h2]
      rfl
    · rw [fq_app]
      have e : fq [n] (-1, 0) = (0, 1) := by show ((0 : Int), n * 0 - (-1)) = (0, 1); simp
      rw [e, fq_fr, h1]
      rfl
/-- the leg turned about: the undoing -/
theorem rev_undo (l : List Int) : ∃ u : Int, (fr l).1 * (fr l.reverse).1 = 1 + (fr l).2 * u ∧ (fr l.reverse).2 = (fr l).2 := by
  have h := det1 l
  obtain ⟨h1, _⟩ := rev4 l
  rw [h1]
  exact ⟨(fq l (-1, 0)).1, by show (fr l).1 * (fq l (-1, 0)).2 = _; omega, rfl⟩
/-! ### duals -/
def s1 (l : List Int) : Int := (l.map fun n => n - 1).sum
theorem s1_c (n : Int) (l : List Int) : s1 (n :: l) = n - 1 + s1 l := by unfold s1; rw [List.map_cons, List.sum_cons]
theorem dual_c (l : List Int) (h : G2 l) (ih : ∃ m, Leg m ((fr l).2 - (fr l).1) (fr l).2 ∧ s1 m = s1 l ∧ (m.length : Int) = s1 l - l.length + 1) : ∀ k : Nat, ∃ m, Leg m ((fr (((k : Int) + 2) :: l)).2 - (fr (((k : Int) + 2) :: l)).1) (fr (((k : Int) + 2) :: l)).2 ∧ s1 m = s1 (((k : Int) + 2) :: l) ∧ (m.length : Int) = s1 (((k : Int) + 2) :: l) - ((((k : Int) + 2) :: l).length : Nat) + 1
  | 0 => by
    obtain ⟨m, hm, e1, e2⟩ := ih
    obtain ⟨b1, b2, _⟩ := fr_b h
    have hw : 0 < (fr l).2 - (fr l).1 := by omega
    obtain ⟨n, t, rfl, e, t'⟩ := hm.inv hw
    · refine ⟨(n + 1) :: t, ?_, ?_, ?_⟩
      · show Leg _ ((((0 : Nat) : Int) + 2) * (fr l).2 - (fr l).1 - (fr l).2) ((((0 : Nat) : Int) + 2) * (fr l).2 - (fr l).1)
        have e3 : (((0 : Nat) : Int) + 2) * (fr l).2 - (fr l).1 - (fr l).2 = (fr l).2 - (fr l).1 := by simp; omega
        have e4 : (((0 : Nat) : Int) + 2) * (fr l).2 - (fr l).1 = (fr l).2 + ((fr l).2 - (fr l).1) := by simp; omega
        rw [e3, e4]
        refine .cons hw ?_ ?_
        · obtain ⟨c1, c2⟩ := ceil_b (a := (fr l).2) hw
          rw [← e] at c1 c2
          refine (ceil_eq hw ?_ ?_).symm
          · rw [Int.add_mul, Int.one_mul]; omega
          · rw [Int.add_mul, Int.one_mul]; omega
        · rw [Int.add_mul, Int.one_mul, show n * ((fr l).2 - (fr l).1) + ((fr l).2 - (fr l).1) - ((fr l).2 + ((fr l).2 - (fr l).1)) = n * ((fr l).2 - (fr l).1) - (fr l).2 by omega]
          exact t'
      · rw [s1_c] at e1
        rw [s1_c, s1_c, ← e1]; simp; omega
      · rw [s1_c]
        rw [List.length_cons] at e2 ⊢
        rw [List.length_cons]
        simp only [Int.natCast_add] at e2 ⊢
        simp; omega
  | k + 1 => by
    obtain ⟨m, hm, e1, e2⟩ := dual_c l h ih k
    obtain ⟨b1, b2, _⟩ := fr_b h
    have hk : 0 ≤ (k : Int) * (fr l).2 := Int.mul_nonneg (by omega) (by omega)
    have ea : (((k : Int) + 2) * (fr l).2 - (fr l).1) = (k : Int) * (fr l).2 + 2 * (fr l).2 - (fr l).1 := by rw [Int.add_mul]
    have eb : ((((k + 1 : Nat) : Int) + 2) * (fr l).2 - (fr l).1) = (k : Int) * (fr l).2 + 3 * (fr l).2 - (fr l).1 := by
      have : (((k + 1 : Nat) : Int) + 2) = (k : Int) + 3 := by omega
      rw [this, Int.add_mul]
    have hm' : Leg m ((k : Int) * (fr l).2 + 2 * (fr l).2 - (fr l).1 - (fr l).2) ((k : Int) * (fr l).2 + 2 * (fr l).2 - (fr l).1) := by rw [← ea]; exact hm
    refine ⟨2 :: m, ?_, ?_, ?_⟩
    · show Leg _ ((((k + 1 : Nat) : Int) + 2) * (fr l).2 - (fr l).1 - (fr l).2) ((((k + 1 : Nat) : Int) + 2) * (fr l).2 - (fr l).1)
      rw [eb]
      refine .cons (by omega) (ceil_eq (by omega) (by omega) (by omega)).symm ?_
      rw [show (2 : Int) * ((k : Int) * (fr l).2 + 3 * (fr l).2 - (fr l).1 - (fr l).2) - ((k : Int) * (fr l).2 + 3 * (fr l).2 - (fr l).1) = (k : Int) * (fr l).2 + 2 * (fr l).2 - (fr l).1 - (fr l).2 by omega,
        show (k : Int) * (fr l).2 + 3 * (fr l).2 - (fr l).1 - (fr l).2 = (k : Int) * (fr l).2 + 2 * (fr l).2 - (fr l).1 by omega]
      exact hm'
    · rw [s1_c, s1_c] at *
      rw [e1]; omega
    · rw [s1_c] at e2 ⊢
      rw [List.length_cons] at e2 ⊢
      rw [List.length_cons]
      omega
theorem dual_ex : ∀ {l : List Int}, G2 l → ∃ m, Leg m ((fr l).2 - (fr l).1) (fr l).2 ∧ s1 m = s1 l ∧ (m.length : Int) = s1 l - l.length + 1
  | [], _ => ⟨[1], .cons (by decide) (by decide) (.nil 1), by decide, by decide⟩
  | n :: l, h => by
    have h' : G2 l := fun x hx => h x (List.mem_cons_of_mem _ hx)
    have hn := h n List.mem_cons_self
    obtain ⟨k, rfl⟩ : ∃ k : Nat, n = (k : Int) + 2 := ⟨(n - 2).toNat, by omega⟩
    exact dual_c l h' (dual_ex h') k
/-- the inverse is but one -/
theorem inv_uniq {w a u v : Int} (ha : 0 < a) (g : Nat.gcd w.natAbs a.natAbs = 1) (hu : 0 ≤ u ∧ u < a) (hv : 0 ≤ v ∧ v < a) (h : a ∣ w * u - w * v) : u = v := by
  have h1 : a ∣ w * (u - v) := by rw [Int.mul_sub]; exact h
  have g1 : Nat.Coprime a.natAbs w.natAbs := (Nat.gcd_comm _ _).trans g
  have h2 : a.natAbs ∣ w.natAbs * (u - v).natAbs := by rw [← Int.natAbs_mul]; exact Int.natAbs_dvd_natAbs.mpr h1
  have h3 : a.natAbs ∣ (u - v).natAbs := g1.dvd_of_dvd_mul_left h2
  by_cases z : u - v = 0
  · omega
  · have := Nat.le_of_dvd (by omega) h3
    omega
end K12

set_option Elab.async false
set_option linter.all false
set_option maxRecDepth 100000
set_option maxHeartbeats 4000000
namespace K12
open PySem Dv
abbrev Q2 := Int × Int
theorem sp_mixed (k : Rv → Prop) (E : Exn → Prop) (h : ∀ i : Int, k (.val (.int i))) : F__law_mixed [.drw] k E := by
  simp [F__law_mixed, dfS, startD, sCons, sNil, sSetN, sSetB, sOwnN, sOwnB, sIf, sRetB, sRetNone, sRetO, sFor, sAsgN, sAsgB, sAsgF, gTupL_l, sParN, sParB, slotR, lfR, sExpr, sAppN, sAppB, augI, gTup_t, gCons_c, gCons_n, gNil_n, gNil_c, gN, dVar, dC, vR, rV, rBin, cBin, bV, bTru, bNot, bAnd, bOr, vAnd, vOr, vNot, rIf, vIf, dNeg, dTup, dLst, dTupS, dLstS, aNil, aCons, aStar, rCall, dCall, dCallK, pick, on1, on2, dLen, i1, i2, dInt, dIsi, dTru, dFld, rCut, rRev, dRevS, oNone, oSome, dCut, iOf, iArg, zip2_e, enu1_e, rng1, rng2, rComp, bYes, cChain, cChain3, dInB, inD, D.fl, toV, L2.eqV, dAdd, dSub, dMul, dMulA, dFd, dMd, dPw, iI, iC, frz, viewN, viewB, wipeV, toSl, D.items, vDr, iDr, sDrPut, rDrNext, vDct, sNever, L2.atI, dIx, dList, dTuple, dEq, dNe, D.okd, okdL, D.eqb, PyData.eqv, D.py, pyL, dSum, dSumA, dSorted, dAll, dAny, L2.ixN, dNotB, dIsB, dIsN, dNotN, D.isNon, sDrPull, sRaise0, vDct1, dCaught, dfL, dNeS, sRaise1, dXf, dEqO, dmS, jCons, jFlds, iCons, iNil, putD, sParsN, sParsB, rsN, putK, lfRs, lfR, dCallV, sCaughtApp, dNeO, sFz, rLRg1, rLRg2, dLRg, gTupL_l, vDctI, rComp2]
  intro n
  refine forD_inv (fun rest ρ => (∀ d ∈ rest, ∃ g : Int, d = .int g ∧ 0 < g ∧ g < 2 ^ 40) ∧ ∃ f : Int, ∃ a b c, ρ = [some (.val .drw), some (.val (.int n)), some (.val (.int f)), a, b, c]) ?_ ?_ _ _ ⟨by simp, _, _, _, _, rfl⟩
  · rintro d r ρ ⟨hd, f, a, b, c, rfl⟩ κ hκ
    obtain ⟨g, rfl, hg, hg2⟩ := hd _ List.mem_cons_self
    simp [dfS, startD, sCons, sNil, sSetN, sSetB, sOwnN, sOwnB, sIf, sRetB, sRetNone, sRetO, sFor, sAsgN, sAsgB, sAsgF, gTupL_l, sParN, sParB, slotR, lfR, sExpr, sAppN, sAppB, augI, gTup_t, gCons_c, gCons_n, gNil_n, gNil_c, gN, dVar, dC, vR, rV, rBin, cBin, bV, bTru, bNot, bAnd, bOr, vAnd, vOr, vNot, rIf, vIf, dNeg, dTup, dLst, dTupS, dLstS, aNil, aCons, aStar, rCall, dCall, dCallK, pick, on1, on2, dLen, i1, i2, dInt, dIsi, dTru, dFld, rCut, rRev, dRevS, oNone, oSome, dCut, iOf, iArg, zip2_e, enu1_e, rng1, rng2, rComp, bYes, cChain, cChain3, dInB, inD, D.fl, toV, L2.eqV, dAdd, dSub, dMul, dMulA, dFd, dMd, dPw, iI, iC, frz, viewN, viewB, wipeV, toSl, D.items, vDr, iDr, sDrPut, rDrNext, vDct, sNever, L2.atI, dIx, dList, dTuple, dEq, dNe, D.okd, okdL, D.eqb, PyData.eqv, D.py, pyL, dSum, dSumA, dSorted, dAll, dAny, L2.ixN, dNotB, dIsB, dIsN, dNotN, D.isNon, sDrPull, sRaise0, vDct1, dCaught, dfL, dNeS, sRaise1, dXf, dEqO, dmS, jCons, jFlds, iCons, iNil, putD, sParsN, sParsB, rsN, putK, lfRs, lfR, dCallV, sCaughtApp, dNeO, sFz, rLRg1, rLRg2, dLRg, gTupL_l, vDctI, rComp2]
    refine ⟨mulok _ _ (by decide), ⟨by decide, by decide⟩, by omega, fun cs => ?_⟩
    refine forD_inv (fun rest ρ => (∀ d ∈ rest, ∃ g : Int, d = .int g) ∧ ∃ b : Int, ∃ c, 0 ≤ b ∧ b < 2 ^ 40 ∧ ρ = [some (.val .drw), some (.val (.int n)), some (.val (.int f)), some (.val (.int g)), some (.val (.int b)), c]) ?_ ?_ _ _ ⟨by simp, _, _, ?_, ?_, rfl⟩
    · rintro d r ρ ⟨hd, b, c, hb, hb2, rfl⟩ κ' hκ'
      obtain ⟨x, rfl⟩ := hd _ List.mem_cons_self
      simp [dfS, startD, sCons, sNil, sSetN, sSetB, sOwnN, sOwnB, sIf, sRetB, sRetNone, sRetO, sFor, sAsgN, sAsgB, sAsgF, gTupL_l, sParN, sParB, slotR, lfR, sExpr, sAppN, sAppB, augI, gTup_t, gCons_c, gCons_n, gNil_n, gNil_c, gN, dVar, dC, vR, rV, rBin, cBin, bV, bTru, bNot, bAnd, bOr, vAnd, vOr, vNot, rIf, vIf, dNeg, dTup, dLst, dTupS, dLstS, aNil, aCons, aStar, rCall, dCall, dCallK, pick, on1, on2, dLen, i1, i2, dInt, dIsi, dTru, dFld, rCut, rRev, dRevS, oNone, oSome, dCut, iOf, iArg, zip2_e, enu1_e, rng1, rng2, rComp, bYes, cChain, cChain3, dInB, inD, D.fl, toV, L2.eqV, dAdd, dSub, dMul, dMulA, dFd, dMd, dPw, iI, iC, frz, viewN, viewB, wipeV, toSl, D.items, vDr, iDr, sDrPut, rDrNext, vDct, sNever, L2.atI, dIx, dList, dTuple, dEq, dNe, D.okd, okdL, D.eqb, PyData.eqv, D.py, pyL, dSum, dSumA, dSorted, dAll, dAny, L2.ixN, dNotB, dIsB, dIsN, dNotN, D.isNon, sDrPull, sRaise0, vDct1, dCaught, dfL, dNeS, sRaise1, dXf, dEqO, dmS, jCons, jFlds, iCons, iNil, putD, sParsN, sParsB, rsN, putK, lfRs, lfR, dCallV, sCaughtApp, dNeO, sFz, rLRg1, rLRg2, dLRg, gTupL_l, vDctI, rComp2]
      refine ⟨mulok _ _ (by decide), by omega, hκ' _ ⟨fun d hd' => hd _ (List.mem_cons_of_mem _ hd'), _, _, ?_, ?_, rfl⟩⟩
      · exact fmod_nn _ hg
      · exact Int.lt_trans (fmod_lt _ hg) hg2
    · rintro ρ ⟨_, b, c, hb, hb2, rfl⟩
      simp [dfS, startD, sCons, sNil, sSetN, sSetB, sOwnN, sOwnB, sIf, sRetB, sRetNone, sRetO, sFor, sAsgN, sAsgB, sAsgF, gTupL_l, sParN, sParB, slotR, lfR, sExpr, sAppN, sAppB, augI, gTup_t, gCons_c, gCons_n, gNil_n, gNil_c, gN, dVar, dC, vR, rV, rBin, cBin, bV, bTru, bNot, bAnd, bOr, vAnd, vOr, vNot, rIf, vIf, dNeg, dTup, dLst, dTupS, dLstS, aNil, aCons, aStar, rCall, dCall, dCallK, pick, on1, on2, dLen, i1, i2, dInt, dIsi, dTru, dFld, rCut, rRev, dRevS, oNone, oSome, dCut, iOf, iArg, zip2_e, enu1_e, rng1, rng2, rComp, bYes, cChain, cChain3, dInB, inD, D.fl, toV, L2.eqV, dAdd, dSub, dMul, dMulA, dFd, dMd, dPw, iI, iC, frz, viewN, viewB, wipeV, toSl, D.items, vDr, iDr, sDrPut, rDrNext, vDct, sNever, L2.atI, dIx, dList, dTuple, dEq, dNe, D.okd, okdL, D.eqb, PyData.eqv, D.py, pyL, dSum, dSumA, dSorted, dAll, dAny, L2.ixN, dNotB, dIsB, dIsN, dNotN, D.isNon, sDrPull, sRaise0, vDct1, dCaught, dfL, dNeS, sRaise1, dXf, dEqO, dmS, jCons, jFlds, iCons, iNil, putD, sParsN, sParsB, rsN, putK, lfRs, lfR, dCallV, sCaughtApp, dNeO, sFz, rLRg1, rLRg2, dLRg, gTupL_l, vDctI, rComp2]
      refine ⟨mulok _ _ (by decide), ⟨by decide, by decide, by omega⟩, by omega, hκ _ ⟨fun d hd' => hd _ (List.mem_cons_of_mem _ hd'), _, _, _, _, rfl⟩⟩
    · exact fmod_nn _ hg
    · exact Int.lt_trans (fmod_lt _ hg) hg2
  · rintro ρ ⟨_, f, a, b, c, rfl⟩
    simp
    exact h f
theorem sp_take (n : Int) (k : Rv → Prop) (E : Exn → Prop) (hn : 0 < n) (hl : n.natAbs.log2 < 9000) (h : ∀ i : Int, 0 ≤ i → i < n → k (.val (.int i))) : F__law_take [.drw, .int n] k E := by
  have fin : ∀ i : Int, k (.val (.int (i.fmod n))) := fun i => h _ (fmod_nn _ hn) (fmod_lt _ hn)
  simp [F__law_take, dfS, startD, sCons, sNil, sSetN, sSetB, sOwnN, sOwnB, sIf, sRetB, sRetNone, sRetO, sFor, sAsgN, sAsgB, sAsgF, gTupL_l, sParN, sParB, slotR, lfR, sExpr, sAppN, sAppB, augI, gTup_t, gCons_c, gCons_n, gNil_n, gNil_c, gN, dVar, dC, vR, rV, rBin, cBin, bV, bTru, bNot, bAnd, bOr, vAnd, vOr, vNot, rIf, vIf, dNeg, dTup, dLst, dTupS, dLstS, aNil, aCons, aStar, rCall, dCall, dCallK, pick, on1, on2, dLen, i1, i2, dInt, dIsi, dTru, dFld, rCut, rRev, dRevS, oNone, oSome, dCut, iOf, iArg, zip2_e, enu1_e, rng1, rng2, rComp, bYes, cChain, cChain3, dInB, inD, D.fl, toV, L2.eqV, dAdd, dSub, dMul, dMulA, dFd, dMd, dPw, iI, iC, frz, viewN, viewB, wipeV, toSl, D.items, vDr, iDr, sDrPut, rDrNext, vDct, sNever, L2.atI, dIx, dList, dTuple, dEq, dNe, D.okd, okdL, D.eqb, PyData.eqv, D.py, pyL, dSum, dSumA, dSorted, dAll, dAny, L2.ixN, dNotB, dIsB, dIsN, dNotN, D.isNon, sDrPull, sRaise0, vDct1, dCaught, dfL, dNeS, sRaise1, dXf, dEqO, dmS, jCons, jFlds, iCons, iNil, putD, sParsN, sParsB, rsN, putK, lfRs, lfR, dCallV, sCaughtApp, dNeO, sFz, rLRg1, rLRg2, dLRg, gTupL_l, vDctI, rComp2]
  intro m
  refine ⟨fun _ => ⟨fun i => ⟨by omega, fun j => ⟨⟨by omega, hl⟩, fin _⟩⟩, sp_mixed _ _ fun i => ⟨⟨i, rfl⟩, fun i => ⟨by omega, fun j => ⟨⟨by omega, hl⟩, fin _⟩⟩⟩⟩, fun _ i => ⟨by omega, fun j => ⟨⟨by omega, hl⟩, fin _⟩⟩⟩
theorem beg_ok : BegOk 3 b1_law_begun b2_law_begun := by
  intro ns hl
  simp [b1_law_begun, b2_law_begun, List.replicate, dfS, startD, sCons, sNil, sSetN, sSetB, sOwnN, sOwnB, sIf, sRetB, sRetNone, sRetO, sFor, sAsgN, sAsgB, sAsgF, gTupL_l, sParN, sParB, slotR, lfR, sExpr, sAppN, sAppB, augI, gTup_t, gCons_c, gCons_n, gNil_n, gNil_c, gN, dVar, dC, vR, rV, rBin, cBin, bV, bTru, bNot, bAnd, bOr, vAnd, vOr, vNot, rIf, vIf, dNeg, dTup, dLst, dTupS, dLstS, aNil, aCons, aStar, rCall, dCall, dCallK, pick, on1, on2, dLen, i1, i2, dInt, dIsi, dTru, dFld, rCut, rRev, dRevS, oNone, oSome, dCut, iOf, iArg, zip2_e, enu1_e, rng1, rng2, rComp, bYes, cChain, cChain3, dInB, inD, D.fl, toV, L2.eqV, dAdd, dSub, dMul, dMulA, dFd, dMd, dPw, iI, iC, frz, viewN, viewB, wipeV, toSl, D.items, vDr, iDr, sDrPut, rDrNext, vDct, sNever, L2.atI, dIx, dList, dTuple, dEq, dNe, D.okd, okdL, D.eqb, PyData.eqv, D.py, pyL, dSum, dSumA, dSorted, dAll, dAny, L2.ixN, dNotB, dIsB, dIsN, dNotN, D.isNon, sDrPull, sRaise0, vDct1, dCaught, dfL, dNeS, sRaise1, dXf, dEqO, dmS, jCons, jFlds, iCons, iNil, putD, sParsN, sParsB, rsN, putK, lfRs, lfR, dCallV, sCaughtApp, dNeO, sFz, rLRg1, rLRg2, dLRg, gTupL_l, vDctI, rComp2]
  have hz := szl
  refine compD_flt (fun d => match d with | .int i => decide (10 ^ 18 ≤ iAbs i) | _ => false) (fun d => match d with | .int i => .int (iAbs i - 10 ^ 18) | z => z) _ _ ?_ ?_ ?_
  · intro d hd κ κ' κ1 h1 h2
    obtain ⟨i, _, rfl⟩ := List.mem_map.mp hd
    simp [dfS, startD, sCons, sNil, sSetN, sSetB, sOwnN, sOwnB, sIf, sRetB, sRetNone, sRetO, sFor, sAsgN, sAsgB, sAsgF, gTupL_l, sParN, sParB, slotR, lfR, sExpr, sAppN, sAppB, augI, gTup_t, gCons_c, gCons_n, gNil_n, gNil_c, gN, dVar, dC, vR, rV, rBin, cBin, bV, bTru, bNot, bAnd, bOr, vAnd, vOr, vNot, rIf, vIf, dNeg, dTup, dLst, dTupS, dLstS, aNil, aCons, aStar, rCall, dCall, dCallK, pick, on1, on2, dLen, i1, i2, dInt, dIsi, dTru, dFld, rCut, rRev, dRevS, oNone, oSome, dCut, iOf, iArg, zip2_e, enu1_e, rng1, rng2, rComp, bYes, cChain, cChain3, dInB, inD, D.fl, toV, L2.eqV, dAdd, dSub, dMul, dMulA, dFd, dMd, dPw, iI, iC, frz, viewN, viewB, wipeV, toSl, D.items, vDr, iDr, sDrPut, rDrNext, vDct, sNever, L2.atI, dIx, dList, dTuple, dEq, dNe, D.okd, okdL, D.eqb, PyData.eqv, D.py, pyL, dSum, dSumA, dSorted, dAll, dAny, L2.ixN, dNotB, dIsB, dIsN, dNotN, D.isNon, sDrPull, sRaise0, vDct1, dCaught, dfL, dNeS, sRaise1, dXf, dEqO, dmS, jCons, jFlds, iCons, iNil, putD, sParsN, sParsB, rsN, putK, lfRs, lfR, dCallV, sCaughtApp, dNeO, sFz, rLRg1, rLRg2, dLRg, gTupL_l, vDctI, rComp2] at h1 h2 ⊢
    have c : L2.CPow 10 18 := ⟨by decide, by decide, by decide⟩
    exact ⟨c, fun h => ⟨c, h1 h⟩, h2⟩
  · simp; omega
  · refine ⟨fun d hd => ?_, compD_map (fun d => match d with | .int i => .int (iAbs i) | z => z) _ _ ?_ ?_ ?_⟩
    · simp only [List.nil_append, List.mem_map, List.mem_filter] at hd
      obtain ⟨e, ⟨⟨i, _, rfl⟩, _⟩, rfl⟩ := hd
      exact ⟨_, rfl⟩
    · intro d hd κ h1
      obtain ⟨i, _, rfl⟩ := List.mem_map.mp hd
      simp [dfS, startD, sCons, sNil, sSetN, sSetB, sOwnN, sOwnB, sIf, sRetB, sRetNone, sRetO, sFor, sAsgN, sAsgB, sAsgF, gTupL_l, sParN, sParB, slotR, lfR, sExpr, sAppN, sAppB, augI, gTup_t, gCons_c, gCons_n, gNil_n, gNil_c, gN, dVar, dC, vR, rV, rBin, cBin, bV, bTru, bNot, bAnd, bOr, vAnd, vOr, vNot, rIf, vIf, dNeg, dTup, dLst, dTupS, dLstS, aNil, aCons, aStar, rCall, dCall, dCallK, pick, on1, on2, dLen, i1, i2, dInt, dIsi, dTru, dFld, rCut, rRev, dRevS, oNone, oSome, dCut, iOf, iArg, zip2_e, enu1_e, rng1, rng2, rComp, bYes, cChain, cChain3, dInB, inD, D.fl, toV, L2.eqV, dAdd, dSub, dMul, dMulA, dFd, dMd, dPw, iI, iC, frz, viewN, viewB, wipeV, toSl, D.items, vDr, iDr, sDrPut, rDrNext, vDct, sNever, L2.atI, dIx, dList, dTuple, dEq, dNe, D.okd, okdL, D.eqb, PyData.eqv, D.py, pyL, dSum, dSumA, dSorted, dAll, dAny, L2.ixN, dNotB, dIsB, dIsN, dNotN, D.isNon, sDrPull, sRaise0, vDct1, dCaught, dfL, dNeS, sRaise1, dXf, dEqO, dmS, jCons, jFlds, iCons, iNil, putD, sParsN, sParsB, rsN, putK, lfRs, lfR, dCallV, sCaughtApp, dNeO, sFz, rLRg1, rLRg2, dLRg, gTupL_l, vDctI, rComp2] at h1 ⊢
      exact h1
    · simp; omega
    · intro d hd
      simp only [List.nil_append, List.mem_map] at hd
      obtain ⟨e, ⟨i, _, rfl⟩, rfl⟩ := hd
      exact ⟨_, rfl⟩
theorem sp_pick (ds : List D) (k : Rv → Prop) (E : Exn → Prop) (h0 : ds ≠ []) (hl : ds.length < 1000) (h : ∀ d ∈ ds, k (.val d)) : F__law_pick [.drw, .lst ds] k E := by
  simp [F__law_pick, dfS, startD, sCons, sNil, sSetN, sSetB, sOwnN, sOwnB, sIf, sRetB, sRetNone, sRetO, sFor, sAsgN, sAsgB, sAsgF, gTupL_l, sParN, sParB, slotR, lfR, sExpr, sAppN, sAppB, augI, gTup_t, gCons_c, gCons_n, gNil_n, gNil_c, gN, dVar, dC, vR, rV, rBin, cBin, bV, bTru, bNot, bAnd, bOr, vAnd, vOr, vNot, rIf, vIf, dNeg, dTup, dLst, dTupS, dLstS, aNil, aCons, aStar, rCall, dCall, dCallK, pick, on1, on2, dLen, i1, i2, dInt, dIsi, dTru, dFld, rCut, rRev, dRevS, oNone, oSome, dCut, iOf, iArg, zip2_e, enu1_e, rng1, rng2, rComp, bYes, cChain, cChain3, dInB, inD, D.fl, toV, L2.eqV, dAdd, dSub, dMul, dMulA, dFd, dMd, dPw, iI, iC, frz, viewN, viewB, wipeV, toSl, D.items, vDr, iDr, sDrPut, rDrNext, vDct, sNever, L2.atI, dIx, dList, dTuple, dEq, dNe, D.okd, okdL, D.eqb, PyData.eqv, D.py, pyL, dSum, dSumA, dSorted, dAll, dAny, dNotB, dIsB, dIsN, dNotN, D.isNon, sDrPull, sRaise0, vDct1, dCaught, dfL, dNeS, sRaise1, dXf, dEqO, dmS, jCons, jFlds, iCons, iNil, putD, sParsN, sParsB, rsN, putK, lfRs, lfR, dCallV, sCaughtApp, dNeO, sFz, rLRg1, rLRg2, dLRg, gTupL_l, vDctI, rComp2]
  have h1 : 0 < ds.length := List.length_pos_iff.mpr h0
  refine sp_take _ _ _ (by omega) (lg (by omega)) fun i hi hi2 => ?_
  have hlt : i.toNat < ds.length := by omega
  refine ⟨ds[i.toNat], ?_, h _ (List.getElem_mem hlt)⟩
  rw [ix_nat hi hi2]
  exact List.getElem?_eq_getElem hlt
theorem iAbs_nat (a : Int) : iAbs a = (a.natAbs : Int) := by
  unfold iAbs
  split <;> omega
theorem sp_common (a b : Int) (hb : b.natAbs < 2 ^ 100) (k : Rv → Prop) (E : Exn → Prop) (h : k (.val (.int (Nat.gcd a.natAbs b.natAbs : Nat)))) : F__law_common [.int a, .int b] k E := by
  simp [F__law_common, dfS, startD, sCons, sNil, sSetN, sSetB, sOwnN, sOwnB, sIf, sRetB, sRetNone, sRetO, sFor, sAsgN, sAsgB, sAsgF, gTupL_l, sParN, sParB, slotR, lfR, sExpr, sAppN, sAppB, augI, gTup_t, gCons_c, gCons_n, gNil_n, gNil_c, gN, dVar, dC, vR, rV, rBin, cBin, bV, bTru, bNot, bAnd, bOr, vAnd, vOr, vNot, rIf, vIf, dNeg, dTup, dLst, dTupS, dLstS, aNil, aCons, aStar, rCall, dCall, dCallK, pick, on1, on2, dLen, i1, i2, dInt, dIsi, dTru, dFld, rCut, rRev, dRevS, oNone, oSome, dCut, iOf, iArg, zip2_e, enu1_e, rng1, rng2, rComp, bYes, cChain, cChain3, dInB, inD, D.fl, toV, L2.eqV, dAdd, dSub, dMul, dMulA, dFd, dMd, dPw, iI, iC, frz, viewN, viewB, wipeV, toSl, D.items, vDr, iDr, sDrPut, rDrNext, vDct, sNever, L2.atI, dIx, dList, dTuple, dEq, dNe, D.okd, okdL, D.eqb, PyData.eqv, D.py, pyL, dSum, dSumA, dSorted, dAll, dAny, L2.ixN, dNotB, dIsB, dIsN, dNotN, D.isNon, sDrPull, sRaise0, vDct1, dCaught, dfL, dNeS, sRaise1, dXf, dEqO, dmS, jCons, jFlds, iCons, iNil, putD, sParsN, sParsB, rsN, putK, lfRs, lfR, dCallV, sCaughtApp, dNeO, sFz, rLRg1, rLRg2, dLRg, gTupL_l, vDctI, rComp2]
  refine while_inv (fun n ρ => ∃ x y : Nat, n = y ∧ Nat.gcd x y = Nat.gcd a.natAbs b.natAbs ∧ ρ = [some (.val (.int x)), some (.val (.int y))]) ?_ b.natAbs _ ⟨a.natAbs, b.natAbs, rfl, rfl, ?_⟩
  · rintro n ρ ⟨x, y, rfl, hg, rfl⟩ κ hκ
    simp [dfS, startD, sCons, sNil, sSetN, sSetB, sOwnN, sOwnB, sIf, sRetB, sRetNone, sRetO, sFor, sAsgN, sAsgB, sAsgF, gTupL_l, sParN, sParB, slotR, lfR, sExpr, sAppN, sAppB, augI, gTup_t, gCons_c, gCons_n, gNil_n, gNil_c, gN, dVar, dC, vR, rV, rBin, cBin, bV, bTru, bNot, bAnd, bOr, vAnd, vOr, vNot, rIf, vIf, dNeg, dTup, dLst, dTupS, dLstS, aNil, aCons, aStar, rCall, dCall, dCallK, pick, on1, on2, dLen, i1, i2, dInt, dIsi, dTru, dFld, rCut, rRev, dRevS, oNone, oSome, dCut, iOf, iArg, zip2_e, enu1_e, rng1, rng2, rComp, bYes, cChain, cChain3, dInB, inD, D.fl, toV, L2.eqV, dAdd, dSub, dMul, dMulA, dFd, dMd, dPw, iI, iC, frz, viewN, viewB, wipeV, toSl, D.items, vDr, iDr, sDrPut, rDrNext, vDct, sNever, L2.atI, dIx, dList, dTuple, dEq, dNe, D.okd, okdL, D.eqb, PyData.eqv, D.py, pyL, dSum, dSumA, dSorted, dAll, dAny, L2.ixN, dNotB, dIsB, dIsN, dNotN, D.isNon, sDrPull, sRaise0, vDct1, dCaught, dfL, dNeS, sRaise1, dXf, dEqO, dmS, jCons, jFlds, iCons, iNil, putD, sParsN, sParsB, rsN, putK, lfRs, lfR, dCallV, sCaughtApp, dNeO, sFz, rLRg1, rLRg2, dLRg, gTupL_l, vDctI, rComp2]
    refine ⟨fun hy => ⟨by omega, ?_⟩, fun hy => ?_⟩
    · refine hκ (x % n) _ (Nat.mod_lt _ (by omega)) ⟨n, x % n, rfl, ?_, ?_⟩
      · rw [← hg, Nat.gcd_comm n, ← Nat.gcd_rec, Nat.gcd_comm]
      · rw [Int.fmod_eq_emod_of_nonneg _ (by omega)]
        rfl
    · have hx : Nat.gcd a.natAbs b.natAbs = x := by rw [← hg, hy, Nat.gcd_zero_right]
      rw [hx] at h
      exact h
  · rw [iAbs_nat, iAbs_nat]
def dp (p : Q2) : D := .tup [.int p.1, .int p.2]
/-- least terms -/
def red (a b : Int) : Q2 := (a / (Nat.gcd a.natAbs b.natAbs : Nat), b / (Nat.gcd a.natAbs b.natAbs : Nat))
theorem red_id {a b : Int} (h : Nat.gcd a.natAbs b.natAbs = 1) : red a b = (a, b) := by
  unfold red; rw [h]; simp
theorem red_spec {a b : Int} (hb : 0 < b) : 0 < (red a b).2 ∧ (red a b).2 ≤ b ∧ Nat.gcd (red a b).1.natAbs (red a b).2.natAbs = 1 ∧ (red a b).1 * b = (red a b).2 * a ∧ (red a b).1.natAbs ≤ a.natAbs := by
  unfold red
  generalize hg : Nat.gcd a.natAbs b.natAbs = g
  have g0 : 0 < g := by rw [← hg]; exact Nat.gcd_pos_of_pos_right _ (by omega)
  obtain ⟨p, hp⟩ : (g : Int) ∣ a := by rw [← hg]; exact Int.gcd_dvd_left (a := a) (b := b)
  obtain ⟨q, hq⟩ : (g : Int) ∣ b := by rw [← hg]; exact Int.gcd_dvd_right (a := a) (b := b)
  have e1 : a / (g : Int) = p := by rw [hp]; exact Int.mul_ediv_cancel_left _ (by omega)
  have e2 : b / (g : Int) = q := by rw [hq]; exact Int.mul_ediv_cancel_left _ (by omega)
  simp only [e1, e2]
  have q0 : 0 < q := by
    by_cases z : 0 < q
    · exact z
    · exfalso
      have : (g : Int) * q ≤ 0 := Int.mul_nonpos_of_nonneg_of_nonpos (by omega) (by omega)
      omega
  have na : a.natAbs = g * p.natAbs := by rw [hp, Int.natAbs_mul]; rfl
  have nb : b.natAbs = g * q.natAbs := by rw [hq, Int.natAbs_mul]; rfl
  refine ⟨q0, ?_, ?_, by rw [hp, hq]; grind, ?_⟩
  · rw [hq]
    have : 1 * q ≤ (g : Int) * q := Int.mul_le_mul_of_nonneg_right (by omega) (by omega)
    omega
  · rw [na, nb, Nat.gcd_mul_left] at hg
    exact Nat.eq_of_mul_eq_mul_left g0 (by rw [hg, Nat.mul_one])
  · rw [na]
    exact Nat.le_mul_of_pos_left _ g0
theorem compD_mf {α : Type} (h : α → D) (t : α → Bool) (f : α → D) {g : DG} {ft : DB} {fe : DV} {ρ : View} {k : List D → Prop} (xs : List α) (acc : List D) (hs : ∀ x ∈ xs, ∀ κ' : Prop, ∀ κ1 : D → Prop, (t x = true → κ1 (f x)) → (t x = false → κ') → g (h x) (toSl ρ) fun ρ' => ft (viewN ρ') (fun b => (b = true → fe (viewN ρ') κ1 fun _ => False) ∧ (b = false → κ')) fun _ => False) (hl : acc.length + xs.length ≤ sizeLine) (hk : k (acc ++ (xs.filter t).map f)) : compD g ft fe ρ (xs.map h) acc k := by
  induction xs generalizing acc with
  | nil => simpa [compD] using hk
  | cons x xs ih =>
    rw [List.map_cons]
    show g (h x) (toSl ρ) fun ρ' => ft (viewN ρ') (fun b => (b = true → fe (viewN ρ') (fun y => acc.length < sizeLine ∧ compD g ft fe ρ (xs.map h) (acc ++ [y]) k) fun _ => False) ∧ (b = false → compD g ft fe ρ (xs.map h) acc k)) fun _ => False
    rw [List.length_cons] at hl
    refine hs x List.mem_cons_self _ _ (fun ht => ⟨by omega, ih _ (fun y hy => hs y (List.mem_cons_of_mem _ hy)) (by rw [List.length_append, List.length_singleton]; omega) ?_⟩) fun ht => ih _ (fun y hy => hs y (List.mem_cons_of_mem _ hy)) (by omega) ?_
    · rw [List.filter_cons_of_pos ht, List.map_cons] at hk
      rw [List.append_assoc]; exact hk
    · rw [List.filter_cons_of_neg (by rw [ht]; decide)] at hk
      exact hk
end K12

set_option Elab.async false
set_option linter.all false
set_option maxRecDepth 100000
set_option maxHeartbeats 4000000
namespace K12
open PySem Dv
structure Pr (p : Q2) : Prop where
  a : 0 < p.1
  b : p.1 < p.2
  c : p.2 ≤ 60
  g : Nat.gcd p.1.natAbs p.2.natAbs = 1
abbrev dp' := dp
theorem sp_free (n : Int) (hn : 2 ≤ n ∧ n ≤ 60) (k : Rv → Prop) (E : Exn → Prop) (h : ∀ ws : List Int, ws ≠ [] → ws.length ≤ 60 → (∀ w ∈ ws, Pr (w, n)) → k (.new (ws.map .int))) : F__law_free [.int n] k E := by
  simp [F__law_free, dfS, startD, sCons, sNil, sSetN, sSetB, sOwnN, sOwnB, sIf, sRetB, sRetNone, sRetO, sFor, sAsgN, sAsgB, sAsgF, gTupL_l, sParN, sParB, slotR, lfR, sExpr, sAppN, sAppB, augI, gTup_t, gCons_c, gCons_n, gNil_n, gNil_c, gN, dVar, dC, vR, rV, rBin, cBin, bV, bTru, bNot, bAnd, bOr, vAnd, vOr, vNot, rIf, vIf, dNeg, dTup, dLst, dTupS, dLstS, aNil, aCons, aStar, rCall, dCall, dCallK, pick, on1, on2, dLen, i1, i2, dInt, dIsi, dTru, dFld, rCut, rRev, dRevS, oNone, oSome, dCut, iOf, iArg, zip2_e, enu1_e, rng1, rng2, rComp, bYes, cChain, cChain3, dInB, inD, D.fl, toV, L2.eqV, dAdd, dSub, dMul, dMulA, dFd, dMd, dPw, iI, iC, frz, viewN, viewB, wipeV, toSl, D.items, vDr, iDr, sDrPut, rDrNext, vDct, sNever, L2.atI, dIx, dList, dTuple, dEq, dNe, D.okd, okdL, D.eqb, PyData.eqv, D.py, pyL, dSum, dSumA, dSorted, dAll, dAny, L2.ixN, dNotB, dIsB, dIsN, dNotN, D.isNon, sDrPull, sRaise0, vDct1, dCaught, dfL, dNeS, sRaise1, dXf, dEqO, dmS, jCons, jFlds, iCons, iNil, putD, sParsN, sParsB, rsN, putK, lfRs, lfR, dCallV, sCaughtApp, dNeO, sFz, rLRg1, rLRg2, dLRg, gTupL_l, vDctI, rComp2]
  refine ⟨by omega, ?_⟩
  have hz := szl
  unfold rngD
  refine compD_mf _ (fun i : Nat => decide (Nat.gcd (1 + i) n.natAbs = 1)) (fun i => .int (1 + (i : Nat))) _ _ (fun i hi κ' κ1 h1 h2 => ?_) (by simp; omega) ?_
  · simp [dfS, startD, sCons, sNil, sSetN, sSetB, sOwnN, sOwnB, sIf, sRetB, sRetNone, sRetO, sFor, sAsgN, sAsgB, sAsgF, gTupL_l, sParN, sParB, slotR, lfR, sExpr, sAppN, sAppB, augI, gTup_t, gCons_c, gCons_n, gNil_n, gNil_c, gN, dVar, dC, vR, rV, rBin, cBin, bV, bTru, bNot, bAnd, bOr, vAnd, vOr, vNot, rIf, vIf, dNeg, dTup, dLst, dTupS, dLstS, aNil, aCons, aStar, rCall, dCall, dCallK, pick, on1, on2, dLen, i1, i2, dInt, dIsi, dTru, dFld, rCut, rRev, dRevS, oNone, oSome, dCut, iOf, iArg, zip2_e, enu1_e, rng1, rng2, rComp, bYes, cChain, cChain3, dInB, inD, D.fl, toV, L2.eqV, dAdd, dSub, dMul, dMulA, dFd, dMd, dPw, iI, iC, frz, viewN, viewB, wipeV, toSl, D.items, vDr, iDr, sDrPut, rDrNext, vDct, sNever, L2.atI, dIx, dList, dTuple, dEq, dNe, D.okd, okdL, D.eqb, PyData.eqv, D.py, pyL, dSum, dSumA, dSorted, dAll, dAny, L2.ixN, dNotB, dIsB, dIsN, dNotN, D.isNon, sDrPull, sRaise0, vDct1, dCaught, dfL, dNeS, sRaise1, dXf, dEqO, dmS, jCons, jFlds, iCons, iNil, putD, sParsN, sParsB, rsN, putK, lfRs, lfR, dCallV, sCaughtApp, dNeO, sFz, rLRg1, rLRg2, dLRg, gTupL_l, vDctI, rComp2]
    have e : ((1 : Int) + (i : Nat)).natAbs = 1 + i := by omega
    refine sp_common _ _ (by omega) _ _ ?_
    simp [e, dfS, startD, sCons, sNil, sSetN, sSetB, sOwnN, sOwnB, sIf, sRetB, sRetNone, sRetO, sFor, sAsgN, sAsgB, sAsgF, gTupL_l, sParN, sParB, slotR, lfR, sExpr, sAppN, sAppB, augI, gTup_t, gCons_c, gCons_n, gNil_n, gNil_c, gN, dVar, dC, vR, rV, rBin, cBin, bV, bTru, bNot, bAnd, bOr, vAnd, vOr, vNot, rIf, vIf, dNeg, dTup, dLst, dTupS, dLstS, aNil, aCons, aStar, rCall, dCall, dCallK, pick, on1, on2, dLen, i1, i2, dInt, dIsi, dTru, dFld, rCut, rRev, dRevS, oNone, oSome, dCut, iOf, iArg, zip2_e, enu1_e, rng1, rng2, rComp, bYes, cChain, cChain3, dInB, inD, D.fl, toV, L2.eqV, dAdd, dSub, dMul, dMulA, dFd, dMd, dPw, iI, iC, frz, viewN, viewB, wipeV, toSl, D.items, vDr, iDr, sDrPut, rDrNext, vDct, sNever, L2.atI, dIx, dList, dTuple, dEq, dNe, D.okd, okdL, D.eqb, PyData.eqv, D.py, pyL, dSum, dSumA, dSorted, dAll, dAny, L2.ixN, dNotB, dIsB, dIsN, dNotN, D.isNon, sDrPull, sRaise0, vDct1, dCaught, dfL, dNeS, sRaise1, dXf, dEqO, dmS, jCons, jFlds, iCons, iNil, putD, sParsN, sParsB, rsN, putK, lfRs, lfR, dCallV, sCaughtApp, dNeO, sFz, rLRg1, rLRg2, dLRg, gTupL_l, vDctI, rComp2]
    simp only [decide_eq_true_eq, decide_eq_false_iff_not] at h1 h2
    exact ⟨fun q => h1 (by omega), fun q => h2 (by omega)⟩
  · have := h (((List.range (n - 1).toNat).filter fun i : Nat => decide (Nat.gcd (1 + i) n.natAbs = 1)).map fun i : Nat => ((1 : Int) + (i : Nat))) (fun e => ?_) ?_ ?_
    · rw [List.nil_append]
      rw [List.map_map] at this
      exact this
    · rw [List.map_eq_nil_iff] at e
      have : (0 : Nat) ∈ (List.range (n - 1).toNat).filter fun i : Nat => decide (Nat.gcd (1 + i) n.natAbs = 1) := List.mem_filter.mpr ⟨List.mem_range.mpr (by omega), by simp⟩
      rw [e] at this
      cases this
    · rw [List.length_map]
      have := List.length_filter_le (fun i : Nat => decide (Nat.gcd (1 + i) n.natAbs = 1)) (List.range (n - 1).toNat)
      rw [List.length_range] at this
      omega
    · intro w hw
      obtain ⟨i, hi, rfl⟩ := List.mem_map.mp hw
      obtain ⟨h1, h2⟩ := List.mem_filter.mp hi
      have h3 := List.mem_range.mp h1
      have e : ((1 : Int) + (i : Nat)).natAbs = 1 + i := by omega
      refine ⟨by simp only; omega, by simp only; omega, hn.2, ?_⟩
      simp only [e]
      simpa using h2
theorem sp_pair (m : Int) (hm : 2 ≤ m ∧ m ≤ 60) (k : Rv → Prop) (E : Exn → Prop) (h : ∀ p : Q2, Pr p → k (.val (dp p))) : F__law_pair [.drw, .int m] k E := by
  simp [F__law_pair, dfS, startD, sCons, sNil, sSetN, sSetB, sOwnN, sOwnB, sIf, sRetB, sRetNone, sRetO, sFor, sAsgN, sAsgB, sAsgF, gTupL_l, sParN, sParB, slotR, lfR, sExpr, sAppN, sAppB, augI, gTup_t, gCons_c, gCons_n, gNil_n, gNil_c, gN, dVar, dC, vR, rV, rBin, cBin, bV, bTru, bNot, bAnd, bOr, vAnd, vOr, vNot, rIf, vIf, dNeg, dTup, dLst, dTupS, dLstS, aNil, aCons, aStar, rCall, dCall, dCallK, pick, on1, on2, dLen, i1, i2, dInt, dIsi, dTru, dFld, rCut, rRev, dRevS, oNone, oSome, dCut, iOf, iArg, zip2_e, enu1_e, rng1, rng2, rComp, bYes, cChain, cChain3, dInB, inD, D.fl, toV, L2.eqV, dAdd, dSub, dMul, dMulA, dFd, dMd, dPw, iI, iC, frz, viewN, viewB, wipeV, toSl, D.items, vDr, iDr, sDrPut, rDrNext, vDct, sNever, L2.atI, dIx, dList, dTuple, dEq, dNe, D.okd, okdL, D.eqb, PyData.eqv, D.py, pyL, dSum, dSumA, dSorted, dAll, dAny, L2.ixN, dNotB, dIsB, dIsN, dNotN, D.isNon, sDrPull, sRaise0, vDct1, dCaught, dfL, dNeS, sRaise1, dXf, dEqO, dmS, jCons, jFlds, iCons, iNil, putD, sParsN, sParsB, rsN, putK, lfRs, lfR, dCallV, sCaughtApp, dNeO, sFz, rLRg1, rLRg2, dLRg, gTupL_l, vDctI, rComp2]
  refine sp_take _ _ _ (by omega) (lg (by omega)) fun i hi hi2 => ?_
  refine sp_pick _ _ _ (by simp) (by simp) fun d hd => ?_
  have hc : ∃ c : Int, d = .int c := by
    simp only [List.mem_cons, List.mem_nil_iff, or_false] at hd
    rcases hd with rfl | rfl | rfl | rfl | rfl | rfl | rfl | rfl | rfl <;> exact ⟨_, rfl⟩
  obtain ⟨c, rfl⟩ := hc
  simp [dfS, startD, sCons, sNil, sSetN, sSetB, sOwnN, sOwnB, sIf, sRetB, sRetNone, sRetO, sFor, sAsgN, sAsgB, sAsgF, gTupL_l, sParN, sParB, slotR, lfR, sExpr, sAppN, sAppB, augI, gTup_t, gCons_c, gCons_n, gNil_n, gNil_c, gN, dVar, dC, vR, rV, rBin, cBin, bV, bTru, bNot, bAnd, bOr, vAnd, vOr, vNot, rIf, vIf, dNeg, dTup, dLst, dTupS, dLstS, aNil, aCons, aStar, rCall, dCall, dCallK, pick, on1, on2, dLen, i1, i2, dInt, dIsi, dTru, dFld, rCut, rRev, dRevS, oNone, oSome, dCut, iOf, iArg, zip2_e, enu1_e, rng1, rng2, rComp, bYes, cChain, cChain3, dInB, inD, D.fl, toV, L2.eqV, dAdd, dSub, dMul, dMulA, dFd, dMd, dPw, iI, iC, frz, viewN, viewB, wipeV, toSl, D.items, vDr, iDr, sDrPut, rDrNext, vDct, sNever, L2.atI, dIx, dList, dTuple, dEq, dNe, D.okd, okdL, D.eqb, PyData.eqv, D.py, pyL, dSum, dSumA, dSorted, dAll, dAny, L2.ixN, dNotB, dIsB, dIsN, dNotN, D.isNon, sDrPull, sRaise0, vDct1, dCaught, dfL, dNeS, sRaise1, dXf, dEqO, dmS, jCons, jFlds, iCons, iNil, putD, sParsN, sParsB, rsN, putK, lfRs, lfR, dCallV, sCaughtApp, dNeO, sFz, rLRg1, rLRg2, dLRg, gTupL_l, vDctI, rComp2]
  have em : 2 ≤ iMax 2 (iMin c m) ∧ iMax 2 (iMin c m) ≤ 60 := by unfold iMax iMin; split <;> split <;> omega
  revert em
  generalize iMax 2 (iMin c m) = c
  intro em
  refine sp_free c em _ _ fun ws w0 wl hw => ?_
  refine sp_pick _ _ _ (by simpa using w0) (by simp; omega) fun d hd => ?_
  obtain ⟨w, hw1, rfl⟩ := List.mem_map.mp hd
  exact h (w, c) (hw w hw1)
end K12

set_option Elab.async false
set_option linter.all false
set_option maxRecDepth 100000
set_option maxHeartbeats 4000000
namespace K12
open PySem Dv
theorem kt_ty (d : D) (U : String) (h : d.tn = some U) (T : String) (hT : TsD.contains T = true) : kt Cs d (.typ T) = some (isiB U T) := by
  show kt1 Cs d T = _
  unfold kt1
  rw [if_pos hT, h]
theorem sp_is_number (d : D) (U : String) (h : d.tn = some U) (k : Rv → Prop) (E : Exn → Prop) (hk : k (.val (.bl (isiB U "int" && !isiB U "bool")))) : F_is_number [d] k E := by
  simp [-Bool.exists_bool, F_is_number, dfS, startD, sCons, sNil, sSetN, sSetB, sOwnN, sOwnB, sIf, sRetB, sRetNone, sRetO, sFor, sAsgN, sAsgB, sAsgF, gTupL_l, sParN, sParB, slotR, lfR, sExpr, sAppN, sAppB, augI, gTup_t, gCons_c, gCons_n, gNil_n, gNil_c, gN, dVar, dC, vR, rV, rBin, cBin, bV, bTru, bNot, bAnd, bOr, vAnd, vOr, vNot, rIf, vIf, dNeg, dTup, dLst, dTupS, dLstS, aNil, aCons, aStar, rCall, dCall, dCallK, pick, on1, on2, dLen, i1, i2, dInt, dIsi, dTru, dFld, rCut, rRev, dRevS, oNone, oSome, dCut, iOf, iArg, zip2_e, enu1_e, rng1, rng2, rComp, bYes, cChain, cChain3, dInB, inD, D.fl, toV, L2.eqV, dAdd, dSub, dMul, dMulA, dFd, dMd, dPw, iI, iC, frz, viewN, viewB, wipeV, toSl, D.items, vDr, iDr, sDrPut, rDrNext, vDct, sNever, L2.atI, dIx, dList, dTuple, dEq, dNe, D.okd, okdL, D.eqb, PyData.eqv, D.py, pyL, dSum, dSumA, dSorted, dAll, dAny, L2.ixN, dNotB, dIsB, dIsN, dNotN, D.isNon, sDrPull, sRaise0, vDct1, dCaught, dfL, dNeS, sRaise1, dXf, dEqO, dmS, jCons, jFlds, iCons, iNil, putD, sParsN, sParsB, rsN, putK, lfRs, lfR, dCallV, sCaughtApp, dNeO, sFz, rLRg1, rLRg2, dLRg, gTupL_l, vDctI, rComp2]
  refine ⟨_, kt_ty d U h "int" rfl, ?_⟩
  cases e : isiB U "int" with
  | false => rw [e] at hk; simpa using hk
  | true =>
    rw [e] at hk
    simp [-Bool.exists_bool]
    exact ⟨_, kt_ty d U h "bool" rfl, by simpa using hk⟩
theorem sp_num_int (i : Int) (k : Rv → Prop) (E : Exn → Prop) (hk : k (.val (.bl true))) : F_is_number [.int i] k E := sp_is_number _ "int" rfl _ _ hk
/-- a tuple of so many -/
theorem sp_is_tuple (ds : List D) (n : Int) (k : Rv → Prop) (E : Exn → Prop) (hk : k (.val (.bl (decide ((ds.length : Int) = n))))) : F_is_tuple [.tup ds, .int n] k E := by
  simp [-Bool.exists_bool, F_is_tuple, dfS, startD, sCons, sNil, sSetN, sSetB, sOwnN, sOwnB, sIf, sRetB, sRetNone, sRetO, sFor, sAsgN, sAsgB, sAsgF, gTupL_l, sParN, sParB, slotR, lfR, sExpr, sAppN, sAppB, augI, gTup_t, gCons_c, gCons_n, gNil_n, gNil_c, gN, dVar, dC, vR, rV, rBin, cBin, bV, bTru, bNot, bAnd, bOr, vAnd, vOr, vNot, rIf, vIf, dNeg, dTup, dLst, dTupS, dLstS, aNil, aCons, aStar, rCall, dCall, dCallK, pick, on1, on2, dLen, i1, i2, dInt, dIsi, dTru, dFld, rCut, rRev, dRevS, oNone, oSome, dCut, iOf, iArg, zip2_e, enu1_e, rng1, rng2, rComp, bYes, cChain, cChain3, dInB, inD, D.fl, toV, L2.eqV, dAdd, dSub, dMul, dMulA, dFd, dMd, dPw, iI, iC, frz, viewN, viewB, wipeV, toSl, D.items, vDr, iDr, sDrPut, rDrNext, vDct, sNever, L2.atI, dIx, dList, dTuple, dEq, dNe, D.okd, okdL, D.eqb, PyData.eqv, D.py, pyL, dSum, dSumA, dSorted, dAll, dAny, L2.ixN, dNotB, dIsB, dIsN, dNotN, D.isNon, sDrPull, sRaise0, vDct1, dCaught, dfL, dNeS, sRaise1, dXf, dEqO, dmS, jCons, jFlds, iCons, iNil, putD, sParsN, sParsB, rsN, putK, lfRs, lfR, dCallV, sCaughtApp, dNeO, sFz, rLRg1, rLRg2, dLRg, gTupL_l, vDctI, rComp2]
  refine ⟨_, kt_ty _ "tuple" rfl "tuple" rfl, ?_⟩
  simp [isiB]
  have e : ((ds.length : Int) == n) = decide ((ds.length : Int) = n) := rfl
  rw [e]; exact hk
theorem sp_is_tuple_no (d : D) (n : Int) (U : String) (h : d.tn = some U) (hU : isiB U "tuple" = false) (k : Rv → Prop) (E : Exn → Prop) (hk : k (.val (.bl false))) : F_is_tuple [d, .int n] k E := by
  simp [-Bool.exists_bool, F_is_tuple, dfS, startD, sCons, sNil, sSetN, sSetB, sOwnN, sOwnB, sIf, sRetB, sRetNone, sRetO, sFor, sAsgN, sAsgB, sAsgF, gTupL_l, sParN, sParB, slotR, lfR, sExpr, sAppN, sAppB, augI, gTup_t, gCons_c, gCons_n, gNil_n, gNil_c, gN, dVar, dC, vR, rV, rBin, cBin, bV, bTru, bNot, bAnd, bOr, vAnd, vOr, vNot, rIf, vIf, dNeg, dTup, dLst, dTupS, dLstS, aNil, aCons, aStar, rCall, dCall, dCallK, pick, on1, on2, dLen, i1, i2, dInt, dIsi, dTru, dFld, rCut, rRev, dRevS, oNone, oSome, dCut, iOf, iArg, zip2_e, enu1_e, rng1, rng2, rComp, bYes, cChain, cChain3, dInB, inD, D.fl, toV, L2.eqV, dAdd, dSub, dMul, dMulA, dFd, dMd, dPw, iI, iC, frz, viewN, viewB, wipeV, toSl, D.items, vDr, iDr, sDrPut, rDrNext, vDct, sNever, L2.atI, dIx, dList, dTuple, dEq, dNe, D.okd, okdL, D.eqb, PyData.eqv, D.py, pyL, dSum, dSumA, dSorted, dAll, dAny, L2.ixN, dNotB, dIsB, dIsN, dNotN, D.isNon, sDrPull, sRaise0, vDct1, dCaught, dfL, dNeS, sRaise1, dXf, dEqO, dmS, jCons, jFlds, iCons, iNil, putD, sParsN, sParsB, rsN, putK, lfRs, lfR, dCallV, sCaughtApp, dNeO, sFz, rLRg1, rLRg2, dLRg, gTupL_l, vDctI, rComp2]
  refine ⟨_, kt_ty d U h "tuple" rfl, ?_⟩
  rw [hU]
  simpa using hk


def PO (p : Q2) : Prop := (0 ≤ p.1 ∧ p.1 < p.2 ∧ p.2 ≤ 10 ^ 30) ∧ Nat.gcd p.1.natAbs p.2.natAbs = 1
instance (p : Q2) : Decidable (PO p) := by unfold PO; exact inferInstance
theorem sp_is_pair (p : Q2) (k : Rv → Prop) (E : Exn → Prop) (hk : k (.val (.bl (decide (PO p))))) : F_is_pair [dp p] k E := by
  simp [F_is_pair, dp, dfS, startD, sCons, sNil, sSetN, sSetB, sOwnN, sOwnB, sIf, sRetB, sRetNone, sRetO, sFor, sAsgN, sAsgB, sAsgF, gTupL_l, sParN, sParB, slotR, lfR, sExpr, sAppN, sAppB, augI, gTup_t, gCons_c, gCons_n, gNil_n, gNil_c, gN, dVar, dC, vR, rV, rBin, cBin, bV, bTru, bNot, bAnd, bOr, vAnd, vOr, vNot, rIf, vIf, dNeg, dTup, dLst, dTupS, dLstS, aNil, aCons, aStar, rCall, dCall, dCallK, pick, on1, on2, dLen, i1, i2, dInt, dIsi, dTru, dFld, rCut, rRev, dRevS, oNone, oSome, dCut, iOf, iArg, zip2_e, enu1_e, rng1, rng2, rComp, bYes, cChain, cChain3, dInB, inD, D.fl, toV, L2.eqV, dAdd, dSub, dMul, dMulA, dFd, dMd, dPw, iI, iC, frz, viewN, viewB, wipeV, toSl, D.items, vDr, iDr, sDrPut, rDrNext, vDct, sNever, L2.atI, dIx, dList, dTuple, dEq, dNe, D.okd, okdL, D.eqb, PyData.eqv, D.py, pyL, dSum, dSumA, dSorted, dAll, dAny, L2.ixN, dNotB, dIsB, dIsN, dNotN, D.isNon, sDrPull, sRaise0, vDct1, dCaught, dfL, dNeS, sRaise1, dXf, dEqO, dmS, jCons, jFlds, iCons, iNil, putD, sParsN, sParsB, rsN, putK, lfRs, lfR, dCallV, sCaughtApp, dNeO, sFz, rLRg1, rLRg2, dLRg, gTupL_l, vDctI, rComp2]
  refine sp_is_tuple _ _ _ _ ?_
  simp [dfS, startD, sCons, sNil, sSetN, sSetB, sOwnN, sOwnB, sIf, sRetB, sRetNone, sRetO, sFor, sAsgN, sAsgB, sAsgF, gTupL_l, sParN, sParB, slotR, lfR, sExpr, sAppN, sAppB, augI, gTup_t, gCons_c, gCons_n, gNil_n, gNil_c, gN, dVar, dC, vR, rV, rBin, cBin, bV, bTru, bNot, bAnd, bOr, vAnd, vOr, vNot, rIf, vIf, dNeg, dTup, dLst, dTupS, dLstS, aNil, aCons, aStar, rCall, dCall, dCallK, pick, on1, on2, dLen, i1, i2, dInt, dIsi, dTru, dFld, rCut, rRev, dRevS, oNone, oSome, dCut, iOf, iArg, zip2_e, enu1_e, rng1, rng2, rComp, bYes, cChain, cChain3, dInB, inD, D.fl, toV, L2.eqV, dAdd, dSub, dMul, dMulA, dFd, dMd, dPw, iI, iC, frz, viewN, viewB, wipeV, toSl, D.items, vDr, iDr, sDrPut, rDrNext, vDct, sNever, L2.atI, dIx, dList, dTuple, dEq, dNe, D.okd, okdL, D.eqb, PyData.eqv, D.py, pyL, dSum, dSumA, dSorted, dAll, dAny, L2.ixN, dNotB, dIsB, dIsN, dNotN, D.isNon, sDrPull, sRaise0, vDct1, dCaught, dfL, dNeS, sRaise1, dXf, dEqO, dmS, jCons, jFlds, iCons, iNil, putD, sParsN, sParsB, rsN, putK, lfRs, lfR, dCallV, sCaughtApp, dNeO, sFz, rLRg1, rLRg2, dLRg, gTupL_l, vDctI, rComp2]
  refine sp_num_int _ _ _ ?_
  simp [dfS, startD, sCons, sNil, sSetN, sSetB, sOwnN, sOwnB, sIf, sRetB, sRetNone, sRetO, sFor, sAsgN, sAsgB, sAsgF, gTupL_l, sParN, sParB, slotR, lfR, sExpr, sAppN, sAppB, augI, gTup_t, gCons_c, gCons_n, gNil_n, gNil_c, gN, dVar, dC, vR, rV, rBin, cBin, bV, bTru, bNot, bAnd, bOr, vAnd, vOr, vNot, rIf, vIf, dNeg, dTup, dLst, dTupS, dLstS, aNil, aCons, aStar, rCall, dCall, dCallK, pick, on1, on2, dLen, i1, i2, dInt, dIsi, dTru, dFld, rCut, rRev, dRevS, oNone, oSome, dCut, iOf, iArg, zip2_e, enu1_e, rng1, rng2, rComp, bYes, cChain, cChain3, dInB, inD, D.fl, toV, L2.eqV, dAdd, dSub, dMul, dMulA, dFd, dMd, dPw, iI, iC, frz, viewN, viewB, wipeV, toSl, D.items, vDr, iDr, sDrPut, rDrNext, vDct, sNever, L2.atI, dIx, dList, dTuple, dEq, dNe, D.okd, okdL, D.eqb, PyData.eqv, D.py, pyL, dSum, dSumA, dSorted, dAll, dAny, L2.ixN, dNotB, dIsB, dIsN, dNotN, D.isNon, sDrPull, sRaise0, vDct1, dCaught, dfL, dNeS, sRaise1, dXf, dEqO, dmS, jCons, jFlds, iCons, iNil, putD, sParsN, sParsB, rsN, putK, lfRs, lfR, dCallV, sCaughtApp, dNeO, sFz, rLRg1, rLRg2, dLRg, gTupL_l, vDctI, rComp2]
  refine sp_num_int _ _ _ ?_
  simp [dfS, startD, sCons, sNil, sSetN, sSetB, sOwnN, sOwnB, sIf, sRetB, sRetNone, sRetO, sFor, sAsgN, sAsgB, sAsgF, gTupL_l, sParN, sParB, slotR, lfR, sExpr, sAppN, sAppB, augI, gTup_t, gCons_c, gCons_n, gNil_n, gNil_c, gN, dVar, dC, vR, rV, rBin, cBin, bV, bTru, bNot, bAnd, bOr, vAnd, vOr, vNot, rIf, vIf, dNeg, dTup, dLst, dTupS, dLstS, aNil, aCons, aStar, rCall, dCall, dCallK, pick, on1, on2, dLen, i1, i2, dInt, dIsi, dTru, dFld, rCut, rRev, dRevS, oNone, oSome, dCut, iOf, iArg, zip2_e, enu1_e, rng1, rng2, rComp, bYes, cChain, cChain3, dInB, inD, D.fl, toV, L2.eqV, dAdd, dSub, dMul, dMulA, dFd, dMd, dPw, iI, iC, frz, viewN, viewB, wipeV, toSl, D.items, vDr, iDr, sDrPut, rDrNext, vDct, sNever, L2.atI, dIx, dList, dTuple, dEq, dNe, D.okd, okdL, D.eqb, PyData.eqv, D.py, pyL, dSum, dSumA, dSorted, dAll, dAny, L2.ixN, dNotB, dIsB, dIsN, dNotN, D.isNon, sDrPull, sRaise0, vDct1, dCaught, dfL, dNeS, sRaise1, dXf, dEqO, dmS, jCons, jFlds, iCons, iNil, putD, sParsN, sParsB, rsN, putK, lfRs, lfR, dCallV, sCaughtApp, dNeO, sFz, rLRg1, rLRg2, dLRg, gTupL_l, vDctI, rComp2]
  have no : ¬ (0 ≤ p.1 ∧ p.1 < p.2 ∧ p.2 ≤ 10 ^ 30) → k (.val (.bl false)) := fun c => by
    rw [decide_eq_false (fun h : PO p => c h.1)] at hk; exact hk
  refine ⟨fun c => no (by omega), fun c0 => ⟨fun c => no (by omega), fun c1 => ⟨fun c2 => ?_, fun c => ?_⟩⟩⟩
  · by_cases g : Nat.gcd p.1.natAbs p.2.natAbs = 1
    · have ht : decide (PO p) = true := decide_eq_true (p := PO p) ⟨⟨c0, c1, by omega⟩, g⟩
      rw [ht] at hk
      simpa [iGcd, g] using hk
    · rw [decide_eq_false (fun h : PO p => g h.2)] at hk
      have e : (iGcd p.1 p.2 == 1) = false := beq_eq_false_iff_ne.mpr (by unfold iGcd; omega)
      rw [e]; exact hk
  · rw [decide_eq_false (by omega : ¬ p.2 ≤ 1000000000000000000000000000000)]
    exact no (by omega)
theorem lgW {n : Int} (h : n.natAbs < 2 ^ 2000) : n.natAbs.log2 < 9000 := by
  by_cases h0 : n.natAbs = 0
  · rw [h0]; decide
  · exact Nat.lt_trans ((Nat.log2_lt h0).mpr h) (by decide)
theorem ceil_le {w a : Int} (hw : 0 < w) (h : w < a) : (a + w - 1) / w ≤ a := by
  refine Int.ediv_le_of_le_mul hw ?_
  have h1 : a * 1 ≤ a * w := Int.mul_le_mul_of_nonneg_left (by omega) (by omega)
  by_cases z : w = 1
  · subst z; omega
  · have h2 : a * 2 ≤ a * w := Int.mul_le_mul_of_nonneg_left (by omega) (by omega)
    omega
theorem Leg.zero {l : List Int} {a : Int} (h : Leg l 0 a) : l = [] := by
  cases h with
  | nil _ => rfl
  | cons h _ _ => exact absurd h (by decide)
theorem sp_leg_numbers (w a : Int) (h0 : 0 ≤ w) (h1 : w < a) (hb : a.natAbs < 2 ^ 1000) (L : List Int) (hL : Leg L w a) (k : Rv → Prop) (E : Exn → Prop) (hk : L.length ≤ 400 → k (.val (.tup (L.map .int)))) (hE : 400 < L.length → E ⟨"TooMany", [("most", .int 400)]⟩) : F_leg_numbers [.tup [.int w, .int a]] k E := by
  have hz := szl
  simp [F_leg_numbers, dfS, startD, sCons, sNil, sSetN, sSetB, sOwnN, sOwnB, sIf, sRetB, sRetNone, sRetO, sFor, sAsgN, sAsgB, sAsgF, gTupL_l, sParN, sParB, slotR, lfR, sExpr, sAppN, sAppB, augI, gTup_t, gCons_c, gCons_n, gNil_n, gNil_c, gN, dVar, dC, vR, rV, rBin, cBin, bV, bTru, bNot, bAnd, bOr, vAnd, vOr, vNot, rIf, vIf, dNeg, dTup, dLst, dTupS, dLstS, aNil, aCons, aStar, rCall, dCall, dCallK, pick, on1, on2, dLen, i1, i2, dInt, dIsi, dTru, dFld, rCut, rRev, dRevS, oNone, oSome, dCut, iOf, iArg, zip2_e, enu1_e, rng1, rng2, rComp, bYes, cChain, cChain3, dInB, inD, D.fl, toV, L2.eqV, dAdd, dSub, dMul, dMulA, dFd, dMd, dPw, iI, iC, frz, viewN, viewB, wipeV, toSl, D.items, vDr, iDr, sDrPut, rDrNext, vDct, sNever, L2.atI, dIx, dList, dTuple, dEq, dNe, D.okd, okdL, D.eqb, PyData.eqv, D.py, pyL, dSum, dSumA, dSorted, dAll, dAny, L2.ixN, dNotB, dIsB, dIsN, dNotN, D.isNon, sDrPull, sRaise0, vDct1, dCaught, dfL, dNeS, sRaise1, dXf, dEqO, dmS, jCons, jFlds, iCons, iNil, putD, sParsN, sParsB, rsN, putK, lfRs, lfR, dCallV, sCaughtApp, dNeO, sFz, rLRg1, rLRg2, dLRg, gTupL_l, vDctI, rComp2]
  refine while_inv (fun n ρ => ∃ (pre rest : List Int) (w' a' : Int) (x : Option Slot), n = w'.toNat ∧ L = pre ++ rest ∧ pre.length ≤ 400 ∧ Leg rest w' a' ∧ 0 ≤ w' ∧ w' < a' ∧ a'.natAbs < 2 ^ 1000 ∧ ρ = [some (.val (.tup [.int w, .int a])), some (.val (.int w')), some (.val (.int a')), some (.own (pre.map .int)), x]) ?_ w.toNat _ ⟨[], L, w, a, none, rfl, rfl, by simp, hL, h0, h1, hb, rfl⟩
  rintro n ρ ⟨pre, rest, w', a', x, rfl, e, hp, hr, g0, g1, gb, rfl⟩ κ hκ
  simp [dfS, startD, sCons, sNil, sSetN, sSetB, sOwnN, sOwnB, sIf, sRetB, sRetNone, sRetO, sFor, sAsgN, sAsgB, sAsgF, gTupL_l, sParN, sParB, slotR, lfR, sExpr, sAppN, sAppB, augI, gTup_t, gCons_c, gCons_n, gNil_n, gNil_c, gN, dVar, dC, vR, rV, rBin, cBin, bV, bTru, bNot, bAnd, bOr, vAnd, vOr, vNot, rIf, vIf, dNeg, dTup, dLst, dTupS, dLstS, aNil, aCons, aStar, rCall, dCall, dCallK, pick, on1, on2, dLen, i1, i2, dInt, dIsi, dTru, dFld, rCut, rRev, dRevS, oNone, oSome, dCut, iOf, iArg, zip2_e, enu1_e, rng1, rng2, rComp, bYes, cChain, cChain3, dInB, inD, D.fl, toV, L2.eqV, dAdd, dSub, dMul, dMulA, dFd, dMd, dPw, iI, iC, frz, viewN, viewB, wipeV, toSl, D.items, vDr, iDr, sDrPut, rDrNext, vDct, sNever, L2.atI, dIx, dList, dTuple, dEq, dNe, D.okd, okdL, D.eqb, PyData.eqv, D.py, pyL, dSum, dSumA, dSorted, dAll, dAny, L2.ixN, dNotB, dIsB, dIsN, dNotN, D.isNon, sDrPull, sRaise0, vDct1, dCaught, dfL, dNeS, sRaise1, dXf, dEqO, dmS, jCons, jFlds, iCons, iNil, putD, sParsN, sParsB, rsN, putK, lfRs, lfR, dCallV, sCaughtApp, dNeO, sFz, rLRg1, rLRg2, dLRg, gTupL_l, vDctI, rComp2]
  refine ⟨fun c => ⟨fun h4 => ?_, fun h4 => ?_⟩, fun c => ?_⟩
  · obtain ⟨n, t, rfl, _, _⟩ := hr.inv c
    exact hE (by rw [e, List.length_append, List.length_cons]; omega)
  · obtain ⟨n, t, rfl, en, ht⟩ := hr.inv c
    have c2 := ceil_2 c g1
    have cl := ceil_le c g1
    obtain ⟨b1, b2⟩ := ceil_b (a := a') c
    rw [fdiv_pos _ c, ← en]
    rw [← en] at c2 cl b1 b2
    refine ⟨⟨by omega, lgW (Nat.lt_trans (by omega : w'.natAbs < 2 ^ 1000) (by decide))⟩, by omega, mulokW _ _ (Nat.lt_trans (by omega : n.natAbs < 2 ^ 1000) (by decide)) (Nat.lt_trans (by omega : w'.natAbs < 2 ^ 1000) (by decide)), ?_⟩
    exact hκ _ _ (by omega) ⟨pre ++ [n], t, n * w' - a', w', some (.val (.int n)), rfl, by rw [e]; simp, by simp; omega, ht, b1, b2, by omega, by simp⟩
  · have : w' = 0 := by omega
    subst this
    have er := hr.zero
    subst er
    rw [List.append_nil] at e
    rw [← e]
    exact hk (by rw [e]; exact hp)
theorem sp_law_leg (w a : Int) (h0 : 0 ≤ w) (h1 : w < a) (hb : a.natAbs < 2 ^ 1000) (L : List Int) (hL : Leg L w a) (k : Rv → Prop) (E : Exn → Prop) (hk : L.length ≤ 400 → k (.new (L.map .int))) (hn : 400 < L.length → k (.val .non)) : F__law_leg [.int w, .int a, .int 400] k E := by
  have hz := szl
  simp [F__law_leg, dfS, startD, sCons, sNil, sSetN, sSetB, sOwnN, sOwnB, sIf, sRetB, sRetNone, sRetO, sFor, sAsgN, sAsgB, sAsgF, gTupL_l, sParN, sParB, slotR, lfR, sExpr, sAppN, sAppB, augI, gTup_t, gCons_c, gCons_n, gNil_n, gNil_c, gN, dVar, dC, vR, rV, rBin, cBin, bV, bTru, bNot, bAnd, bOr, vAnd, vOr, vNot, rIf, vIf, dNeg, dTup, dLst, dTupS, dLstS, aNil, aCons, aStar, rCall, dCall, dCallK, pick, on1, on2, dLen, i1, i2, dInt, dIsi, dTru, dFld, rCut, rRev, dRevS, oNone, oSome, dCut, iOf, iArg, zip2_e, enu1_e, rng1, rng2, rComp, bYes, cChain, cChain3, dInB, inD, D.fl, toV, L2.eqV, dAdd, dSub, dMul, dMulA, dFd, dMd, dPw, iI, iC, frz, viewN, viewB, wipeV, toSl, D.items, vDr, iDr, sDrPut, rDrNext, vDct, sNever, L2.atI, dIx, dList, dTuple, dEq, dNe, D.okd, okdL, D.eqb, PyData.eqv, D.py, pyL, dSum, dSumA, dSorted, dAll, dAny, L2.ixN, dNotB, dIsB, dIsN, dNotN, D.isNon, sDrPull, sRaise0, vDct1, dCaught, dfL, dNeS, sRaise1, dXf, dEqO, dmS, jCons, jFlds, iCons, iNil, putD, sParsN, sParsB, rsN, putK, lfRs, lfR, dCallV, sCaughtApp, dNeO, sFz, rLRg1, rLRg2, dLRg, gTupL_l, vDctI, rComp2]
  refine forD_rngD (m := 401) (by decide) (fun i ρ => ∃ (pre rest : List Int) (w' a' : Int) (x y : Option Slot), L = pre ++ rest ∧ pre.length = i ∧ Leg rest w' a' ∧ 0 ≤ w' ∧ w' < a' ∧ a'.natAbs < 2 ^ 1000 ∧ ρ = [some (.val (.int w)), some (.val (.int a)), some (.val (.int 400)), some (.own (pre.map .int)), some (.val (.int a')), some (.val (.int w')), x, y]) ?_ ?_ _ ⟨[], L, w, a, none, none, rfl, rfl, hL, h0, h1, hb, rfl⟩
  · rintro i ρ hi ⟨pre, rest, w', a', x, y, e, hp, hr, g0, g1, gb, rfl⟩ κ hκ
    simp [dfS, startD, sCons, sNil, sSetN, sSetB, sOwnN, sOwnB, sIf, sRetB, sRetNone, sRetO, sFor, sAsgN, sAsgB, sAsgF, gTupL_l, sParN, sParB, slotR, lfR, sExpr, sAppN, sAppB, augI, gTup_t, gCons_c, gCons_n, gNil_n, gNil_c, gN, dVar, dC, vR, rV, rBin, cBin, bV, bTru, bNot, bAnd, bOr, vAnd, vOr, vNot, rIf, vIf, dNeg, dTup, dLst, dTupS, dLstS, aNil, aCons, aStar, rCall, dCall, dCallK, pick, on1, on2, dLen, i1, i2, dInt, dIsi, dTru, dFld, rCut, rRev, dRevS, oNone, oSome, dCut, iOf, iArg, zip2_e, enu1_e, rng1, rng2, rComp, bYes, cChain, cChain3, dInB, inD, D.fl, toV, L2.eqV, dAdd, dSub, dMul, dMulA, dFd, dMd, dPw, iI, iC, frz, viewN, viewB, wipeV, toSl, D.items, vDr, iDr, sDrPut, rDrNext, vDct, sNever, L2.atI, dIx, dList, dTuple, dEq, dNe, D.okd, okdL, D.eqb, PyData.eqv, D.py, pyL, dSum, dSumA, dSorted, dAll, dAny, L2.ixN, dNotB, dIsB, dIsN, dNotN, D.isNon, sDrPull, sRaise0, vDct1, dCaught, dfL, dNeS, sRaise1, dXf, dEqO, dmS, jCons, jFlds, iCons, iNil, putD, sParsN, sParsB, rsN, putK, lfRs, lfR, dCallV, sCaughtApp, dNeO, sFz, rLRg1, rLRg2, dLRg, gTupL_l, vDctI, rComp2]
    refine ⟨fun c => ?_, fun c => ?_⟩
    · subst c
      have er := hr.zero
      subst er
      rw [List.append_nil] at e
      rw [← e]
      exact hk (by rw [e]; omega)
    · have c : 0 < w' := by omega
      obtain ⟨n, t, rfl, en, ht⟩ := hr.inv c
      have c2 := ceil_2 c g1
      have cl := ceil_le c g1
      obtain ⟨b1, b2⟩ := ceil_b (a := a') c
      rw [fdiv_pos _ c, ← en]
      rw [← en] at c2 cl b1 b2
      refine ⟨⟨by omega, lgW (Nat.lt_trans (by omega : w'.natAbs < 2 ^ 1000) (by decide))⟩, by omega, mulokW _ _ (Nat.lt_trans (by omega : n.natAbs < 2 ^ 1000) (by decide)) (Nat.lt_trans (by omega : w'.natAbs < 2 ^ 1000) (by decide)), ?_⟩
      exact hκ _ ⟨pre ++ [n], t, n * w' - a', w', some (.val (.int (0 + (i : Int)))), some (.val (.int n)), by rw [e]; simp, by simp; omega, ht, b1, b2, by omega, by simp⟩
  · rintro ρ ⟨pre, rest, w', a', x, y, e, hp, hr, g0, g1, gb, rfl⟩
    simp [dfS, startD, sCons, sNil, sSetN, sSetB, sOwnN, sOwnB, sIf, sRetB, sRetNone, sRetO, sFor, sAsgN, sAsgB, sAsgF, gTupL_l, sParN, sParB, slotR, lfR, sExpr, sAppN, sAppB, augI, gTup_t, gCons_c, gCons_n, gNil_n, gNil_c, gN, dVar, dC, vR, rV, rBin, cBin, bV, bTru, bNot, bAnd, bOr, vAnd, vOr, vNot, rIf, vIf, dNeg, dTup, dLst, dTupS, dLstS, aNil, aCons, aStar, rCall, dCall, dCallK, pick, on1, on2, dLen, i1, i2, dInt, dIsi, dTru, dFld, rCut, rRev, dRevS, oNone, oSome, dCut, iOf, iArg, zip2_e, enu1_e, rng1, rng2, rComp, bYes, cChain, cChain3, dInB, inD, D.fl, toV, L2.eqV, dAdd, dSub, dMul, dMulA, dFd, dMd, dPw, iI, iC, frz, viewN, viewB, wipeV, toSl, D.items, vDr, iDr, sDrPut, rDrNext, vDct, sNever, L2.atI, dIx, dList, dTuple, dEq, dNe, D.okd, okdL, D.eqb, PyData.eqv, D.py, pyL, dSum, dSumA, dSorted, dAll, dAny, L2.ixN, dNotB, dIsB, dIsN, dNotN, D.isNon, sDrPull, sRaise0, vDct1, dCaught, dfL, dNeS, sRaise1, dXf, dEqO, dmS, jCons, jFlds, iCons, iNil, putD, sParsN, sParsB, rsN, putK, lfRs, lfR, dCallV, sCaughtApp, dNeO, sFz, rLRg1, rLRg2, dLRg, gTupL_l, vDctI, rComp2]
    exact hn (by rw [e, List.length_append]; omega)
/-! ### the fraction of a leg -/
theorem fr_mono : ∀ (s t : List Int), G2 (s ++ t) → (fr t).2 ≤ (fr (s ++ t)).2
  | [], t, _ => Int.le_refl _
  | n :: s, t, h => by
    have h' : G2 (s ++ t) := fun x hx => h x (List.mem_cons_of_mem _ hx)
    obtain ⟨b1, b2, _⟩ := fr_b h'
    have ih := fr_mono s t h'
    have hn := h n List.mem_cons_self
    have h4 : 2 * (fr (s ++ t)).2 ≤ n * (fr (s ++ t)).2 := Int.mul_le_mul_of_nonneg_right hn (by omega)
    show (fr t).2 ≤ n * (fr (s ++ t)).2 - (fr (s ++ t)).1
    omega
theorem num_le : ∀ {l : List Int}, G2 l → ∀ n ∈ l, n ≤ (fr l).2 + 1
  | m :: l, h, n, hn => by
    have h' : G2 l := fun x hx => h x (List.mem_cons_of_mem _ hx)
    obtain ⟨b1, b2, _⟩ := fr_b h'
    have hm := h m List.mem_cons_self
    have h5 : m * 1 ≤ m * (fr l).2 := Int.mul_le_mul_of_nonneg_left (by omega) (by omega)
    have h4 : 2 * (fr l).2 ≤ m * (fr l).2 := Int.mul_le_mul_of_nonneg_right hm (by omega)
    show n ≤ m * (fr l).2 - (fr l).1 + 1
    rcases List.mem_cons.mp hn with rfl | hn
    · have h6 : (n - 1) * 1 ≤ (n - 1) * (fr l).2 := Int.mul_le_mul_of_nonneg_left (by omega) (by omega)
      have e7 : (n - 1) * (fr l).2 = n * (fr l).2 - (fr l).2 := by rw [Int.sub_mul, Int.one_mul]
      omega
    · have := num_le h' n hn
      omega
theorem frac_core (F : DF) (hF : F = dfS 4
  (sCons (sAsgN (dTup (aCons (dC (.int 0)) (aCons (dC (.int 1)) aNil))) (gTup 2 (gCons (gN 1) (gCons (gN 2) gNil))))
  (sCons (sFor (iOf (vR (rRev (dVar 0) (oSome (dNeg (dC (.int 1))))))) (gN 3) (sCons (sParN 1 2 false false (rV (dVar 2)) (rBin (vR (rBin (dVar 3) (dVar 2) dMulA)) (dVar 1) dSub))
  sNil))
  (sCons (sRetB (rV (dTup (aCons (dVar 1) (aCons (dVar 2) aNil)))))
  sNil)))) (L : List Int) (h : G2 L) (hb : (fr L).2.natAbs < 2 ^ 1000) (d : D) (hd : d = .lst (L.map .int) ∨ d = .tup (L.map .int)) (k : Rv → Prop) (E : Exn → Prop) (hk : k (.val (dp (fr L)))) : F [d] k E := by
  subst hF
  have go : forD (gN 3) (sCons (sParN 1 2 false false (rV (dVar 2)) (rBin (vR (rBin (dVar 3) (dVar 2) dMulA)) (dVar 1) dSub)) sNil) ((L.map D.int).reverse) [some (.val d), some (.val (.int 0)), some (.val (.int 1)), none] ⟨fun ρ' => (sCons (sRetB (rV (dTup (aCons (dVar 1) (aCons (dVar 2) aNil))))) sNil) ρ' ⟨fun _ => k (.val .non), k, fun _ => False, fun _ => False⟩ E, k, fun _ => False, fun _ => False⟩ E := by
    rw [← List.map_reverse]
    refine forD_ml D.int (fun rest ρ => ∃ (t : List Int) (x : Option Slot), rest.reverse ++ t = L ∧ ρ = [some (.val d), some (.val (.int (fr t).1)), some (.val (.int (fr t).2)), x]) ?_ ?_ L.reverse _ ⟨[], none, by simp, rfl⟩
    · rintro n r ρ ⟨t, x, e, rfl⟩ κ hκ
      have e2 : r.reverse ++ (n :: t) = L := by rw [← e]; simp
      have hg : G2 (n :: t) := fun y hy => h y (by rw [← e2]; exact List.mem_append_right _ hy)
      have ht : G2 t := fun y hy => hg y (List.mem_cons_of_mem _ hy)
      obtain ⟨b1, b2, _⟩ := fr_b ht
      have m1 := fr_mono r.reverse (n :: t) (by rw [e2]; exact h)
      rw [e2] at m1
      have m2 := fr_mono [n] t hg
      have m3 := num_le hg n List.mem_cons_self
      have m4 := hg n List.mem_cons_self
      have m5 : (fr ([n] ++ t)).2 = (fr (n :: t)).2 := rfl
      simp [dfS, startD, sCons, sNil, sSetN, sSetB, sOwnN, sOwnB, sIf, sRetB, sRetNone, sRetO, sFor, sAsgN, sAsgB, sAsgF, gTupL_l, sParN, sParB, slotR, lfR, sExpr, sAppN, sAppB, augI, gTup_t, gCons_c, gCons_n, gNil_n, gNil_c, gN, dVar, dC, vR, rV, rBin, cBin, bV, bTru, bNot, bAnd, bOr, vAnd, vOr, vNot, rIf, vIf, dNeg, dTup, dLst, dTupS, dLstS, aNil, aCons, aStar, rCall, dCall, dCallK, pick, on1, on2, dLen, i1, i2, dInt, dIsi, dTru, dFld, rCut, rRev, dRevS, oNone, oSome, dCut, iOf, iArg, zip2_e, enu1_e, rng1, rng2, rComp, bYes, cChain, cChain3, dInB, inD, D.fl, toV, L2.eqV, dAdd, dSub, dMul, dMulA, dFd, dMd, dPw, iI, iC, frz, viewN, viewB, wipeV, toSl, D.items, vDr, iDr, sDrPut, rDrNext, vDct, sNever, L2.atI, dIx, dList, dTuple, dEq, dNe, D.okd, okdL, D.eqb, PyData.eqv, D.py, pyL, dSum, dSumA, dSorted, dAll, dAny, L2.ixN, dNotB, dIsB, dIsN, dNotN, D.isNon, sDrPull, sRaise0, vDct1, dCaught, dfL, dNeS, sRaise1, dXf, dEqO, dmS, jCons, jFlds, iCons, iNil, putD, sParsN, sParsB, rsN, putK, lfRs, lfR, dCallV, sCaughtApp, dNeO, sFz, rLRg1, rLRg2, dLRg, gTupL_l, vDctI, rComp2]
      refine ⟨mulokW _ _ (Nat.lt_of_le_of_lt (by omega : n.natAbs ≤ (fr L).2.natAbs + 1) (Nat.lt_of_le_of_lt hb (by decide))) (Nat.lt_trans (by omega : (fr t).2.natAbs < 2 ^ 1000) (by decide)), ?_⟩
      exact hκ _ ⟨n :: t, some (.val (.int n)), e2, rfl⟩
    · rintro ρ ⟨t, x, e, rfl⟩
      have : t = L := by simpa using e
      subst this
      simp [dfS, startD, sCons, sNil, sSetN, sSetB, sOwnN, sOwnB, sIf, sRetB, sRetNone, sRetO, sFor, sAsgN, sAsgB, sAsgF, gTupL_l, sParN, sParB, slotR, lfR, sExpr, sAppN, sAppB, augI, gTup_t, gCons_c, gCons_n, gNil_n, gNil_c, gN, dVar, dC, vR, rV, rBin, cBin, bV, bTru, bNot, bAnd, bOr, vAnd, vOr, vNot, rIf, vIf, dNeg, dTup, dLst, dTupS, dLstS, aNil, aCons, aStar, rCall, dCall, dCallK, pick, on1, on2, dLen, i1, i2, dInt, dIsi, dTru, dFld, rCut, rRev, dRevS, oNone, oSome, dCut, iOf, iArg, zip2_e, enu1_e, rng1, rng2, rComp, bYes, cChain, cChain3, dInB, inD, D.fl, toV, L2.eqV, dAdd, dSub, dMul, dMulA, dFd, dMd, dPw, iI, iC, frz, viewN, viewB, wipeV, toSl, D.items, vDr, iDr, sDrPut, rDrNext, vDct, sNever, L2.atI, dIx, dList, dTuple, dEq, dNe, D.okd, okdL, D.eqb, PyData.eqv, D.py, pyL, dSum, dSumA, dSorted, dAll, dAny, L2.ixN, dNotB, dIsB, dIsN, dNotN, D.isNon, sDrPull, sRaise0, vDct1, dCaught, dfL, dNeS, sRaise1, dXf, dEqO, dmS, jCons, jFlds, iCons, iNil, putD, sParsN, sParsB, rsN, putK, lfRs, lfR, dCallV, sCaughtApp, dNeO, sFz, rLRg1, rLRg2, dLRg, gTupL_l, vDctI, rComp2]
      exact hk
  rcases hd with rfl | rfl
  · simp [dfS, startD, sCons, sNil, sSetN, sSetB, sOwnN, sOwnB, sIf, sRetB, sRetNone, sRetO, sFor, sAsgN, sAsgB, sAsgF, gTupL_l, sParN, sParB, slotR, lfR, sExpr, sAppN, sAppB, augI, gTup_t, gCons_c, gCons_n, gNil_n, gNil_c, gN, dVar, dC, vR, rV, rBin, cBin, bV, bTru, bNot, bAnd, bOr, vAnd, vOr, vNot, rIf, vIf, dNeg, dTup, dLst, dTupS, dLstS, aNil, aCons, aStar, rCall, dCall, dCallK, pick, on1, on2, dLen, i1, i2, dInt, dIsi, dTru, dFld, rCut, rRev, dRevS, oNone, oSome, dCut, iOf, iArg, zip2_e, enu1_e, rng1, rng2, rComp, bYes, cChain, cChain3, dInB, inD, D.fl, toV, L2.eqV, dAdd, dSub, dMul, dMulA, dFd, dMd, dPw, iI, iC, frz, viewN, viewB, wipeV, toSl, D.items, vDr, iDr, sDrPut, rDrNext, vDct, sNever, L2.atI, dIx, dList, dTuple, dEq, dNe, D.okd, okdL, D.eqb, PyData.eqv, D.py, pyL, dSum, dSumA, dSorted, dAll, dAny, L2.ixN, dNotB, dIsB, dIsN, dNotN, D.isNon, sDrPull, sRaise0, vDct1, dCaught, dfL, dNeS, sRaise1, dXf, dEqO, dmS, jCons, jFlds, iCons, iNil, putD, sParsN, sParsB, rsN, putK, lfRs, lfR, dCallV, sCaughtApp, dNeO, sFz, rLRg1, rLRg2, dLRg, gTupL_l, vDctI, rComp2]
    simpa [dfS, startD, sCons, sNil, sSetN, sSetB, sOwnN, sOwnB, sIf, sRetB, sRetNone, sRetO, sFor, sAsgN, sAsgB, sAsgF, gTupL_l, sParN, sParB, slotR, lfR, sExpr, sAppN, sAppB, augI, gTup_t, gCons_c, gCons_n, gNil_n, gNil_c, gN, dVar, dC, vR, rV, rBin, cBin, bV, bTru, bNot, bAnd, bOr, vAnd, vOr, vNot, rIf, vIf, dNeg, dTup, dLst, dTupS, dLstS, aNil, aCons, aStar, rCall, dCall, dCallK, pick, on1, on2, dLen, i1, i2, dInt, dIsi, dTru, dFld, rCut, rRev, dRevS, oNone, oSome, dCut, iOf, iArg, zip2_e, enu1_e, rng1, rng2, rComp, bYes, cChain, cChain3, dInB, inD, D.fl, toV, L2.eqV, dAdd, dSub, dMul, dMulA, dFd, dMd, dPw, iI, iC, frz, viewN, viewB, wipeV, toSl, D.items, vDr, iDr, sDrPut, rDrNext, vDct, sNever, L2.atI, dIx, dList, dTuple, dEq, dNe, D.okd, okdL, D.eqb, PyData.eqv, D.py, pyL, dSum, dSumA, dSorted, dAll, dAny, L2.ixN, dNotB, dIsB, dIsN, dNotN, D.isNon, sDrPull, sRaise0, vDct1, dCaught, dfL, dNeS, sRaise1, dXf, dEqO, dmS, jCons, jFlds, iCons, iNil, putD, sParsN, sParsB, rsN, putK, lfRs, lfR, dCallV, sCaughtApp, dNeO, sFz, rLRg1, rLRg2, dLRg, gTupL_l, vDctI, rComp2] using go
  · simp [dfS, startD, sCons, sNil, sSetN, sSetB, sOwnN, sOwnB, sIf, sRetB, sRetNone, sRetO, sFor, sAsgN, sAsgB, sAsgF, gTupL_l, sParN, sParB, slotR, lfR, sExpr, sAppN, sAppB, augI, gTup_t, gCons_c, gCons_n, gNil_n, gNil_c, gN, dVar, dC, vR, rV, rBin, cBin, bV, bTru, bNot, bAnd, bOr, vAnd, vOr, vNot, rIf, vIf, dNeg, dTup, dLst, dTupS, dLstS, aNil, aCons, aStar, rCall, dCall, dCallK, pick, on1, on2, dLen, i1, i2, dInt, dIsi, dTru, dFld, rCut, rRev, dRevS, oNone, oSome, dCut, iOf, iArg, zip2_e, enu1_e, rng1, rng2, rComp, bYes, cChain, cChain3, dInB, inD, D.fl, toV, L2.eqV, dAdd, dSub, dMul, dMulA, dFd, dMd, dPw, iI, iC, frz, viewN, viewB, wipeV, toSl, D.items, vDr, iDr, sDrPut, rDrNext, vDct, sNever, L2.atI, dIx, dList, dTuple, dEq, dNe, D.okd, okdL, D.eqb, PyData.eqv, D.py, pyL, dSum, dSumA, dSorted, dAll, dAny, L2.ixN, dNotB, dIsB, dIsN, dNotN, D.isNon, sDrPull, sRaise0, vDct1, dCaught, dfL, dNeS, sRaise1, dXf, dEqO, dmS, jCons, jFlds, iCons, iNil, putD, sParsN, sParsB, rsN, putK, lfRs, lfR, dCallV, sCaughtApp, dNeO, sFz, rLRg1, rLRg2, dLRg, gTupL_l, vDctI, rComp2]
    simpa [dfS, startD, sCons, sNil, sSetN, sSetB, sOwnN, sOwnB, sIf, sRetB, sRetNone, sRetO, sFor, sAsgN, sAsgB, sAsgF, gTupL_l, sParN, sParB, slotR, lfR, sExpr, sAppN, sAppB, augI, gTup_t, gCons_c, gCons_n, gNil_n, gNil_c, gN, dVar, dC, vR, rV, rBin, cBin, bV, bTru, bNot, bAnd, bOr, vAnd, vOr, vNot, rIf, vIf, dNeg, dTup, dLst, dTupS, dLstS, aNil, aCons, aStar, rCall, dCall, dCallK, pick, on1, on2, dLen, i1, i2, dInt, dIsi, dTru, dFld, rCut, rRev, dRevS, oNone, oSome, dCut, iOf, iArg, zip2_e, enu1_e, rng1, rng2, rComp, bYes, cChain, cChain3, dInB, inD, D.fl, toV, L2.eqV, dAdd, dSub, dMul, dMulA, dFd, dMd, dPw, iI, iC, frz, viewN, viewB, wipeV, toSl, D.items, vDr, iDr, sDrPut, rDrNext, vDct, sNever, L2.atI, dIx, dList, dTuple, dEq, dNe, D.okd, okdL, D.eqb, PyData.eqv, D.py, pyL, dSum, dSumA, dSorted, dAll, dAny, L2.ixN, dNotB, dIsB, dIsN, dNotN, D.isNon, sDrPull, sRaise0, vDct1, dCaught, dfL, dNeS, sRaise1, dXf, dEqO, dmS, jCons, jFlds, iCons, iNil, putD, sParsN, sParsB, rsN, putK, lfRs, lfR, dCallV, sCaughtApp, dNeO, sFz, rLRg1, rLRg2, dLRg, gTupL_l, vDctI, rComp2] using go
theorem sp_law_frac (L : List Int) (h : G2 L) (hb : (fr L).2.natAbs < 2 ^ 1000) (d : D) (hd : d = .lst (L.map .int) ∨ d = .tup (L.map .int)) (k : Rv → Prop) (E : Exn → Prop) (hk : k (.val (dp (fr L)))) : F__law_fraction [d] k E := frac_core _ rfl L h hb d hd k E hk
def Sl' (d : D) (L : List Int) : Prop := d = .lst (L.map .int) ∨ d = .tup (L.map .int)
end K12

set_option Elab.async false
set_option linter.all false
set_option maxRecDepth 100000
set_option maxHeartbeats 4000000
namespace K12
/-! least points: the plain law -/
abbrev Z2 := Int × Int
def pts : List Int → Z2 → Z2 → List Z2
  | [], p, q => [p, q]
  | n :: l, p, q => p :: pts l q (n * q.1 - p.1, n * q.2 - p.2)
structure Pc (w a : Int) (p q : Z2) : Prop where
  x0 : 0 ≤ p.1
  x1 : p.1 < q.1
  y0 : 0 ≤ q.2
  y1 : q.2 < p.2
  d : q.1 * p.2 - p.1 * q.2 = a
  l0 : a ∣ p.2 - w * p.1
  l1 : a ∣ q.2 - w * q.1
theorem pts_len : ∀ (l : List Int) (p q : Z2), (pts l p q).length = l.length + 2
  | [], _, _ => rfl
  | _ :: l, p, q => by unfold pts; rw [List.length_cons, pts_len l, List.length_cons]
theorem pts_0 (l : List Int) (p q : Z2) : (pts l p q)[0]? = some p ∧ (pts l p q)[1]? = some q := by
  cases l with
  | nil => exact ⟨rfl, rfl⟩
  | cons n l =>
    unfold pts
    refine ⟨rfl, ?_⟩
    rw [List.getElem?_cons_succ]
    cases l <;> rfl
theorem Pc.next {w a : Int} {p q : Z2} (h : Pc w a p q) (hq : 0 < q.2) : Pc w a q ((p.2 + q.2 - 1) / q.2 * q.1 - p.1, (p.2 + q.2 - 1) / q.2 * q.2 - p.2) := by
  obtain ⟨b1, b2⟩ := ceil_b (a := p.2) hq
  have c2 := ceil_2 hq h.y1
  have x0 := h.x0
  have x1 := h.x1
  revert b1 b2 c2
  generalize (p.2 + q.2 - 1) / q.2 = n
  intro b1 b2 c2
  have e : 2 * q.1 ≤ n * q.1 := Int.mul_le_mul_of_nonneg_right c2 (by omega)
  refine ⟨by omega, by simp only; omega, b1, b2, ?_, h.l1, ?_⟩
  · have := h.d
    simp only
    grind
  · simp only
    have e1 : n * q.2 - p.2 - w * (n * q.1 - p.1) = n * (q.2 - w * q.1) - (p.2 - w * p.1) := by grind
    rw [e1]
    exact Int.dvd_sub (Int.dvd_trans h.l1 (Int.dvd_mul_left _ _)) h.l0
theorem pts_c {w a : Int} : ∀ {l : List Int} {p q : Z2}, Pc w a p q → Leg l q.2 p.2 → ∀ (t : Nat) (x y : Z2), (pts l p q)[t]? = some x → (pts l p q)[t + 1]? = some y → Pc w a x y
  | [], p, q, h, _, t, x, y, hx, hy => by
    unfold pts at hx hy
    match t with
    | 0 => cases hx; cases hy; exact h
    | t + 1 => simp at hy
  | n :: l, p, q, h, hl, t, x, y, hx, hy => by
    cases hl with
    | cons hq e tl =>
      subst e
      match t with
      | 0 =>
        have := pts_0 ((p.2 + q.2 - 1) / q.2 :: l) p q
        rw [this.1] at hx
        rw [this.2] at hy
        cases hx; cases hy; exact h
      | t + 1 =>
        unfold pts at hx hy
        rw [List.getElem?_cons_succ] at hx hy
        exact pts_c (h.next hq) tl t x y hx hy
theorem pts_last {w a : Int} : ∀ {l : List Int} {p q : Z2}, Pc w a p q → Leg l q.2 p.2 → Nat.gcd q.2.natAbs p.2.natAbs = 1 → (pts l p q)[l.length + 1]? = some (a, 0)
  | [], p, q, h, hl, g => by
    have hq : q.2 = 0 := by
      generalize q.2 = z at hl
      cases hl; rfl
    have hp : p.2 = 1 := by
      rw [hq] at g
      have := h.y1
      simp at g
      omega
    have := h.d
    rw [hq, hp] at this
    show some q = some (a, 0)
    rw [show q = (q.1, q.2) from rfl, hq]
    simp at this
    rw [this]
  | n :: l, p, q, h, hl, g => by
    cases hl with
    | cons hq e tl =>
      subst e
      unfold pts
      rw [List.length_cons, List.getElem?_cons_succ]
      exact pts_last (h.next hq) tl (by simp only; rw [gcd_step]; exact g)
theorem pts_step : ∀ {l : List Int} {p q : Z2} (t : Nat) (n : Int) (x y : Z2), l[t]? = some n → (pts l p q)[t]? = some x → (pts l p q)[t + 1]? = some y → (pts l p q)[t + 2]? = some (n * y.1 - x.1, n * y.2 - x.2)
  | [], _, _, t, n, x, y, h, _, _ => by simp at h
  | m :: l, p, q, 0, n, x, y, h, hx, hy => by
    have := pts_0 (m :: l) p q
    rw [this.1] at hx
    rw [this.2] at hy
    cases hx; cases hy
    simp at h
    subst h
    unfold pts
    rw [List.getElem?_cons_succ]
    exact (pts_0 l q _).2
  | m :: l, p, q, t + 1, n, x, y, h, hx, hy => by
    unfold pts at hx hy ⊢
    rw [List.getElem?_cons_succ] at h hx hy ⊢
    exact pts_step t n x y h hx hy
/-- the list of the points of w / a -/
def pL (w a : Int) (l : List Int) : List Z2 := pts l (0, a) (1, w)
structure Pk (w a : Int) (l : List Int) : Prop where
  w0 : 0 ≤ w
  wa : w < a
  g : Nat.gcd w.natAbs a.natAbs = 1
  leg : Leg l w a
theorem Pk.pc {w a : Int} {l : List Int} (h : Pk w a l) : Pc w a (0, a) (1, w) := ⟨by simp, by simp, h.w0, h.wa, by simp, by simp, by simp⟩
theorem Pk.c {w a : Int} {l : List Int} (h : Pk w a l) {t : Nat} {x y : Z2} (hx : (pL w a l)[t]? = some x) (hy : (pL w a l)[t + 1]? = some y) : Pc w a x y := pts_c h.pc h.leg t x y hx hy
theorem Pk.len {w a : Int} {l : List Int} : (pL w a l).length = l.length + 2 := pts_len _ _ _
theorem Pk.last {w a : Int} {l : List Int} (h : Pk w a l) : (pL w a l)[l.length + 1]? = some (a, 0) := pts_last h.pc h.leg h.g
theorem Pk.get {w a : Int} {l : List Int} {t : Nat} (h : t < l.length + 2) : ∃ x, (pL w a l)[t]? = some x := ⟨_, List.getElem?_eq_getElem (by rw [Pk.len]; exact h)⟩
theorem Pk.mono {w a : Int} {l : List Int} (h : Pk w a l) (s : Nat) (x : Z2) (hx : (pL w a l)[s]? = some x) : ∀ (k : Nat) (y : Z2), (pL w a l)[s + k]? = some y → x.1 + k ≤ y.1 ∧ y.2 + k ≤ x.2
  | 0, y, hy => by
    rw [Nat.add_zero, hx] at hy
    cases hy
    omega
  | k + 1, y, hy => by
    have hl := (List.getElem?_eq_some_iff.mp hy).1
    obtain ⟨z, hz⟩ := Pk.get (w := w) (a := a) (l := l) (t := s + k) (by rw [Pk.len] at hl; omega)
    have ih := h.mono s x hx k z hz
    have c := h.c hz hy
    have := c.x1
    have := c.y1
    omega
theorem Pk.low {w a : Int} {l : List Int} (h : Pk w a l) {t : Nat} {x : Z2} (hx : (pL w a l)[t]? = some x) : 0 ≤ x.1 ∧ 0 ≤ x.2 ∧ x.1 ≤ a ∧ x.2 ≤ a ∧ a ∣ x.2 - w * x.1 ∧ (t ≠ 0 → 1 ≤ x.1 ∧ x.2 < a) ∧ (t = 0 → x = (0, a)) := by
  have hl := (List.getElem?_eq_some_iff.mp hx).1
  rw [Pk.len] at hl
  have m0 := h.mono 0 (0, a) (pts_0 _ _ _).1 t x (by rw [Nat.zero_add]; exact hx)
  have m1 := h.mono t x hx (l.length + 1 - t) (a, 0) (by rw [show t + (l.length + 1 - t) = l.length + 1 by omega]; exact h.last)
  simp only at m0 m1
  refine ⟨by omega, by omega, by omega, by omega, ?_, fun z => by omega, fun z => ?_⟩
  · match t with
    | 0 =>
      rw [(pts_0 _ _ _).1 |> (fun e : (pL w a l)[0]? = some (0, a) => e)] at hx
      cases hx
      simp
    | t + 1 =>
      obtain ⟨y, hy⟩ := Pk.get (w := w) (a := a) (l := l) (t := t) (by omega)
      exact (h.c hy hx).l1
  · subst z
    have : (pL w a l)[0]? = some (0, a) := (pts_0 _ _ _).1
    rw [this] at hx
    cases hx; rfl
/-- a point -/
structure Lp (w a : Int) (z : Z2) : Prop where
  i : 0 ≤ z.1
  j : 0 ≤ z.2
  p : 0 < z.1 + z.2
  d : a ∣ z.2 - w * z.1
def cc (z x : Z2) : Int := z.1 * x.2 - z.2 * x.1
theorem Pk.a0 {w a : Int} {l : List Int} (h : Pk w a l) : 0 < a := by have := h.w0; have := h.wa; omega
theorem cc_dvd {w a : Int} {z x : Z2} (hz : a ∣ z.2 - w * z.1) (hx : a ∣ x.2 - w * x.1) : a ∣ cc z x := by
  have e : cc z x = z.1 * (x.2 - w * x.1) - (z.2 - w * z.1) * x.1 := by unfold cc; grind
  rw [e]
  exact Int.dvd_sub (Int.dvd_trans hx (Int.dvd_mul_left _ _)) (Int.dvd_trans hz (Int.dvd_mul_right _ _))
theorem cc_le {w a : Int} {z x y : Z2} (hz : Lp w a z) (h : Pc w a x y) : cc z y ≤ cc z x := by
  have h1 : z.1 * y.2 ≤ z.1 * x.2 := Int.mul_le_mul_of_nonneg_left (by have := h.y1; omega) hz.i
  have h2 : z.2 * x.1 ≤ z.2 * y.1 := Int.mul_le_mul_of_nonneg_left (by have := h.x1; omega) hz.j
  unfold cc
  omega
theorem cc_mono {w a : Int} {l : List Int} (h : Pk w a l) {z : Z2} (hz : Lp w a z) (s : Nat) (x : Z2) (hx : (pL w a l)[s]? = some x) : ∀ (k : Nat) (y : Z2), (pL w a l)[s + k]? = some y → cc z y ≤ cc z x
  | 0, y, hy => by
    rw [Nat.add_zero, hx] at hy
    cases hy
    omega
  | k + 1, y, hy => by
    have hl := (List.getElem?_eq_some_iff.mp hy).1
    obtain ⟨u, hu⟩ := Pk.get (w := w) (a := a) (l := l) (t := s + k) (by rw [Pk.len] at hl; omega)
    have ih := cc_mono h hz s x hx k u hu
    have := cc_le hz (h.c hu hy)
    omega
structure R1 (w a : Int) (l : List Int) (z : Z2) (t : Nat) (m n : Int) (x y : Z2) : Prop where
  hx : (pL w a l)[t]? = some x
  hy : (pL w a l)[t + 1]? = some y
  m0 : 0 < m
  n0 : 0 ≤ n
  e : z = (m * x.1 + n * y.1, m * x.2 + n * y.2)
def Rs (w a : Int) (l : List Int) (z : Z2) (t : Nat) (m n : Int) : Prop := (∃ x y, R1 w a l z t m n x y) ∨ (t = l.length + 1 ∧ 0 < m ∧ n = 0 ∧ z = (m * a, 0))
theorem rs_of {w a : Int} {l : List Int} (h : Pk w a l) {z : Z2} (hz : Lp w a z) {t : Nat} {x y : Z2} (hx : (pL w a l)[t]? = some x) (hy : (pL w a l)[t + 1]? = some y) (c0 : 0 ≤ cc z x) (c1 : cc z y < 0) : R1 w a l z t ((z.2 * y.1 - z.1 * y.2) / a) ((z.1 * x.2 - z.2 * x.1) / a) x y := by
  have a0 := h.a0
  have c := h.c hx hy
  obtain ⟨m, hm⟩ := cc_dvd hz.d c.l1
  obtain ⟨n, hn⟩ := cc_dvd hz.d c.l0
  have e1 : (z.2 * y.1 - z.1 * y.2) / a = -m := by
    rw [show z.2 * y.1 - z.1 * y.2 = a * -m by rw [Int.mul_neg, ← hm]; unfold cc; omega]
    exact Int.mul_ediv_cancel_left _ (by omega)
  have e2 : (z.1 * x.2 - z.2 * x.1) / a = n := by
    rw [show z.1 * x.2 - z.2 * x.1 = a * n by rw [← hn]; rfl]
    exact Int.mul_ediv_cancel_left _ (by omega)
  rw [e1, e2]
  have m0 : m < 0 := by
    by_cases q : m < 0
    · exact q
    · exfalso
      have := Int.mul_nonneg (show 0 ≤ a by omega) (show 0 ≤ m by omega)
      omega
  have n0 : 0 ≤ n := by
    by_cases q : 0 ≤ n
    · exact q
    · exfalso
      have := Int.mul_neg_of_pos_of_neg a0 (show n < 0 by omega)
      omega
  have d := c.d
  refine ⟨hx, hy, by omega, n0, ?_⟩
  have k1 : a * z.1 = a * (-m * x.1 + n * y.1) := by
    have : a * (-m * x.1 + n * y.1) = -(a * m) * x.1 + (a * n) * y.1 := by grind
    rw [this, ← hm, ← hn, ← d]
    unfold cc
    grind
  have k2 : a * z.2 = a * (-m * x.2 + n * y.2) := by
    have : a * (-m * x.2 + n * y.2) = -(a * m) * x.2 + (a * n) * y.2 := by grind
    rw [this, ← hm, ← hn, ← d]
    unfold cc
    grind
  exact Prod.ext (Int.eq_of_mul_eq_mul_left (by omega) k1) (Int.eq_of_mul_eq_mul_left (by omega) k2)
theorem rs_end {w a : Int} {l : List Int} (h : Pk w a l) {z : Z2} (hz : Lp w a z) (c : 0 ≤ cc z (a, 0)) : z.2 = 0 ∧ Rs w a l z (l.length + 1) (z.1 / a) 0 := by
  have a0 := h.a0
  have j0 : z.2 = 0 := by
    have e : cc z (a, 0) = -(z.2 * a) := by unfold cc; simp
    rw [e] at c
    have := hz.j
    by_cases q : z.2 = 0
    · exact q
    · exfalso
      have := Int.mul_pos (show 0 < z.2 by omega) a0
      omega
  refine ⟨j0, .inr ⟨rfl, ?_⟩⟩
  have d := hz.d
  rw [j0] at d
  have d2 : a ∣ w * z.1 := by
    have := Int.dvd_neg.mpr d
    rwa [show -(0 - w * z.1) = w * z.1 by omega] at this
  have d3 : a ∣ z.1 := by
    have g : Nat.gcd a.natAbs w.natAbs = 1 := by rw [Nat.gcd_comm]; exact h.g
    have : a.natAbs ∣ w.natAbs * z.1.natAbs := by rw [← Int.natAbs_mul]; exact Int.natAbs_dvd_natAbs.mpr d2
    exact Int.natAbs_dvd_natAbs.mp (Nat.Coprime.dvd_of_dvd_mul_left g this)
  obtain ⟨m, hm⟩ := d3
  have e : z.1 / a = m := by rw [hm]; exact Int.mul_ediv_cancel_left _ (by omega)
  rw [e]
  have hp := hz.p
  refine ⟨?_, rfl, Prod.ext (by rw [hm]; exact Int.mul_comm _ _) j0⟩
  by_cases q : 0 < m
  · exact q
  · exfalso
    have := Int.mul_nonpos_of_nonneg_of_nonpos (show 0 ≤ a by omega) (show m ≤ 0 by omega)
    omega
theorem rs_ex {w a : Int} {l : List Int} (h : Pk w a l) {z : Z2} (hz : Lp w a z) : ∃ t m n, Rs w a l z t m n := by
  have key : ∀ (k s : Nat) (x : Z2), s + k = l.length + 1 → (pL w a l)[s]? = some x → 0 ≤ cc z x → ∃ t m n, Rs w a l z t m n := fun k => by
    induction k with
    | zero =>
      intro s x hs hx c
      rw [Nat.add_zero] at hs
      subst hs
      rw [h.last] at hx
      cases hx
      exact ⟨_, _, _, (rs_end h hz c).2⟩
    | succ k ih =>
      intro s x hs hx c
      obtain ⟨y, hy⟩ := Pk.get (w := w) (a := a) (l := l) (t := s + 1) (by omega)
      by_cases q : 0 ≤ cc z y
      · exact ih (s + 1) y (by omega) hy q
      · exact ⟨_, _, _, .inl ⟨x, y, rs_of h hz hx hy c (by omega)⟩⟩
  refine key (l.length + 1) 0 (0, a) (by omega) (pts_0 _ _ _).1 ?_
  unfold cc
  have := Int.mul_nonneg hz.i (show 0 ≤ a by have := h.a0; omega)
  simpa using this
theorem r1_cc {w a : Int} {l : List Int} (h : Pk w a l) {z : Z2} {t : Nat} {m n : Int} {x y : Z2} (r : R1 w a l z t m n x y) : cc z y = -(a * m) ∧ cc z x = a * n := by
  have d := (h.c r.hx r.hy).d
  rw [r.e, ← d]
  unfold cc
  simp only
  constructor <;> grind
theorem rs_uniq {w a : Int} {l : List Int} (h : Pk w a l) {z : Z2} (hz : Lp w a z) {t s : Nat} {m n u v : Int} (p : Rs w a l z t m n) (q : Rs w a l z s u v) : t = s ∧ m = u ∧ n = v := by
  have a0 := h.a0
  have two : ∀ {t s : Nat} {m n u v : Int} {x y x2 y2 : Z2}, R1 w a l z t m n x y → R1 w a l z s u v x2 y2 → ¬ t < s := fun {t s m n u v x y x2 y2} p q z' => by
    obtain ⟨p1, p2⟩ := r1_cc h p
    obtain ⟨q1, q2⟩ := r1_cc h q
    have m1 := cc_mono h hz (t + 1) y p.hy (s - (t + 1)) x2 (by rw [show t + 1 + (s - (t + 1)) = s by omega]; exact q.hx)
    have := Int.mul_pos a0 p.m0
    have := Int.mul_nonneg (show 0 ≤ a by omega) q.n0
    omega
  have one : ∀ {t : Nat} {m n u : Int} {x y : Z2}, R1 w a l z t m n x y → z ≠ (u * a, 0) := fun {t m n u x y} p z' => by
    obtain ⟨p1, p2⟩ := r1_cc h p
    have yl := h.low p.hy
    have i0 := hz.i
    have : cc z y = z.1 * y.2 := by rw [z']; unfold cc; simp
    have := Int.mul_nonneg i0 yl.2.1
    have := Int.mul_pos a0 p.m0
    omega
  rcases p with ⟨x, y, p⟩ | ⟨p1, p2, p3, p4⟩
  · rcases q with ⟨x2, y2, q⟩ | ⟨q1, q2, q3, q4⟩
    · have e : t = s := by
        have := two p q
        have := two q p
        omega
      subst e
      have ex : x = x2 := by have := p.hx; rw [q.hx] at this; cases this; rfl
      have ey : y = y2 := by have := p.hy; rw [q.hy] at this; cases this; rfl
      subst ex ey
      obtain ⟨p1, p2⟩ := r1_cc h p
      obtain ⟨q1, q2⟩ := r1_cc h q
      refine ⟨rfl, Int.eq_of_mul_eq_mul_left (show a ≠ 0 by omega) (by omega), Int.eq_of_mul_eq_mul_left (show a ≠ 0 by omega) (by omega)⟩
    · exact absurd q4 (one p)
  · rcases q with ⟨x2, y2, q⟩ | ⟨q1, q2, q3, q4⟩
    · exact absurd p4 (one q)
    · subst p1 q1 p3 q3
      refine ⟨rfl, ?_, rfl⟩
      rw [p4] at q4
      have := congrArg Prod.fst q4
      exact Int.eq_of_mul_eq_mul_right (by omega) this
/-- a point told is a point -/
theorem rs_lp {w a : Int} {l : List Int} (h : Pk w a l) {z : Z2} {t : Nat} {m n : Int} (p : Rs w a l z t m n) : Lp w a z := by
  have a0 := h.a0
  rcases p with ⟨x, y, p⟩ | ⟨p1, p2, p3, p4⟩
  · obtain ⟨x1, x2, x3, x4, x5, _⟩ := h.low p.hx
    obtain ⟨y1, y2, y3, y4, y5, _⟩ := h.low p.hy
    have c := h.c p.hx p.hy
    have cy := c.y1
    have m0 := p.m0
    have n0 := p.n0
    have k1 := Int.mul_nonneg (show 0 ≤ m by omega) x1
    have k2 := Int.mul_nonneg n0 y1
    have k3 := Int.mul_pos m0 (show 0 < x.2 by omega)
    have k4 := Int.mul_nonneg n0 y2
    rw [p.e]
    refine ⟨by simp only; omega, by simp only; omega, by simp only; omega, ?_⟩
    have e : m * x.2 + n * y.2 - w * (m * x.1 + n * y.1) = m * (x.2 - w * x.1) + n * (y.2 - w * y.1) := by grind
    simp only
    rw [e]
    exact Int.dvd_add (Int.dvd_trans x5 (Int.dvd_mul_left _ _)) (Int.dvd_trans y5 (Int.dvd_mul_left _ _))
  · rw [p4]
    have := Int.mul_pos p2 a0
    refine ⟨by simp only; omega, by simp, by simp only; omega, ?_⟩
    simp only
    have e : 0 - w * (m * a) = a * -(w * m) := by grind
    rw [e]
    exact Int.dvd_mul_right _ _
/-- every point lies above a least one -/
theorem above {w a : Int} {l : List Int} (h : Pk w a l) {z : Z2} (hz : Lp w a z) : ∃ (t : Nat) (x : Z2), (pL w a l)[t]? = some x ∧ x.1 ≤ z.1 ∧ x.2 ≤ z.2 := by
  have a0 := h.a0
  obtain ⟨t, m, n, p⟩ := rs_ex h hz
  rcases p with ⟨x, y, p⟩ | ⟨p1, p2, p3, p4⟩
  · obtain ⟨x1, x2, _⟩ := h.low p.hx
    obtain ⟨y1, y2, _⟩ := h.low p.hy
    have m0 := p.m0
    have n0 := p.n0
    have k1 : 1 * x.1 ≤ m * x.1 := Int.mul_le_mul_of_nonneg_right (by omega) x1
    have k2 := Int.mul_nonneg n0 y1
    have k3 : 1 * x.2 ≤ m * x.2 := Int.mul_le_mul_of_nonneg_right (by omega) x2
    have k4 := Int.mul_nonneg n0 y2
    refine ⟨t, x, p.hx, ?_, ?_⟩ <;> rw [p.e] <;> simp only <;> omega
  · refine ⟨_, (a, 0), h.last, ?_, ?_⟩ <;> rw [p4] <;> simp only
    · have : 1 * a ≤ m * a := Int.mul_le_mul_of_nonneg_right (by omega) (by omega)
      omega
    · omega
def evr (w a : Int) : List Z2 := (0, a) :: (List.range a.toNat).map fun i : Nat => (1 + (i : Int), w * (1 + (i : Int)) % a)
def lst1 (one other : Z2) : Bool := decide (other ≠ one) && (decide (other.1 ≤ one.1) && decide (other.2 ≤ one.2))
def lstT (w a : Int) (one : Z2) : Bool := ((evr w a).filter (lst1 one)).isEmpty
theorem mem_evr {w a : Int} (a0 : 0 < a) {z : Z2} : z ∈ evr w a ↔ z = (0, a) ∨ (1 ≤ z.1 ∧ z.1 ≤ a ∧ z.2 = w * z.1 % a) := by
  unfold evr
  rw [List.mem_cons, List.mem_map]
  refine or_congr Iff.rfl ⟨fun ⟨i, hi, e⟩ => ?_, fun ⟨h1, h2, h3⟩ => ?_⟩
  · rw [← e]
    have := List.mem_range.mp hi
    exact ⟨by simp only; omega, by simp only; omega, rfl⟩
  · refine ⟨(z.1 - 1).toNat, List.mem_range.mpr (by omega), ?_⟩
    have : 1 + ((z.1 - 1).toNat : Int) = z.1 := by omega
    rw [this, ← h3]
theorem evr_lp {w a : Int} {l : List Int} (h : Pk w a l) {z : Z2} (hz : z ∈ evr w a) : Lp w a z := by
  have a0 := h.a0
  rcases (mem_evr a0).mp hz with rfl | ⟨h1, h2, h3⟩
  · exact ⟨by simp, by simp only; omega, by simp only; omega, by simp⟩
  · have := Int.emod_nonneg (w * z.1) (show a ≠ 0 by omega)
    refine ⟨by omega, by omega, by omega, ?_⟩
    rw [h3]
    have e := Int.emod_add_mul_ediv (w * z.1) a
    rw [show w * z.1 % a - w * z.1 = a * -(w * z.1 / a) by rw [Int.mul_neg]; omega]
    exact Int.dvd_mul_right _ _
theorem pts_evr {w a : Int} {l : List Int} (h : Pk w a l) {t : Nat} {x : Z2} (hx : (pL w a l)[t]? = some x) : x ∈ evr w a := by
  have a0 := h.a0
  obtain ⟨x1, x2, x3, x4, x5, x6, x7⟩ := h.low hx
  refine (mem_evr a0).mpr ?_
  by_cases t0 : t = 0
  · exact .inl (x7 t0)
  · obtain ⟨k1, k2⟩ := x6 t0
    refine .inr ⟨k1, x3, ?_⟩
    obtain ⟨c, hc⟩ := x5
    rw [show w * x.1 = x.2 + a * -c by rw [Int.mul_neg]; omega, Int.add_mul_emod_self_left, Int.emod_eq_of_lt x2 k2]
theorem sort_eq : ∀ {xs ys : List Z2}, xs.Pairwise (fun p q => p.1 < q.1) → ys.Pairwise (fun p q => p.1 < q.1) → (∀ z, z ∈ xs ↔ z ∈ ys) → xs = ys
  | [], [], _, _, _ => rfl
  | [], y :: ys, _, _, h => absurd ((h y).mpr List.mem_cons_self) (by simp)
  | x :: xs, [], _, _, h => absurd ((h x).mp List.mem_cons_self) (by simp)
  | x :: xs, y :: ys, hx, hy, h => by
    obtain ⟨x1, x2⟩ := List.pairwise_cons.mp hx
    obtain ⟨y1, y2⟩ := List.pairwise_cons.mp hy
    have e : x = y := by
      rcases List.mem_cons.mp ((h x).mp List.mem_cons_self) with e | e
      · exact e
      · rcases List.mem_cons.mp ((h y).mpr List.mem_cons_self) with e2 | e2
        · exact e2.symm
        · have := x1 y e2
          have := y1 x e
          omega
    subst e
    rw [sort_eq x2 y2 fun z => ?_]
    refine ⟨fun hz => ?_, fun hz => ?_⟩
    · rcases List.mem_cons.mp ((h z).mp (List.mem_cons_of_mem _ hz)) with e | e
      · subst e; exact absurd (x1 z hz) (by omega)
      · exact e
    · rcases List.mem_cons.mp ((h z).mpr (List.mem_cons_of_mem _ hz)) with e | e
      · subst e; exact absurd (y1 z hz) (by omega)
      · exact e
theorem evr_sort (w a : Int) : (evr w a).Pairwise fun p q => p.1 < q.1 := by
  unfold evr
  refine List.pairwise_cons.mpr ⟨fun z hz => ?_, ?_⟩
  · obtain ⟨i, _, rfl⟩ := List.mem_map.mp hz
    simp only
    omega
  · rw [List.pairwise_map]
    refine List.pairwise_lt_range.imp fun h => ?_
    simp only
    omega
theorem pts_sort {w a : Int} {l : List Int} (h : Pk w a l) : (pL w a l).Pairwise fun p q => p.1 < q.1 := by
  rw [List.pairwise_iff_getElem]
  intro i j hi hj hij
  have := h.mono i _ (List.getElem?_eq_getElem hi) (j - i) _ (by rw [show i + (j - i) = j by omega]; exact List.getElem?_eq_getElem hj)
  omega
theorem least_law {w a : Int} {l : List Int} (h : Pk w a l) : (evr w a).filter (lstT w a) = pL w a l := by
  refine sort_eq ((evr_sort w a).filter _) (pts_sort h) fun z => ?_
  rw [List.mem_filter]
  constructor
  · rintro ⟨h1, h2⟩
    obtain ⟨t, x, hx, k1, k2⟩ := above h (evr_lp h h1)
    have : x = z := by
      by_cases q : x = z
      · exact q
      · exfalso
        unfold lstT at h2
        rw [List.isEmpty_iff, List.filter_eq_nil_iff] at h2
        refine h2 x (pts_evr h hx) ?_
        unfold lst1
        rw [decide_eq_true q, decide_eq_true k1, decide_eq_true k2]; rfl
    rw [← this]
    exact List.mem_of_getElem? hx
  · intro hz
    obtain ⟨t, ht, e⟩ := List.getElem_of_mem hz
    have hx : (pL w a l)[t]? = some z := by rw [← e]; exact List.getElem?_eq_getElem ht
    refine ⟨pts_evr h hx, ?_⟩
    unfold lstT
    rw [List.isEmpty_iff, List.filter_eq_nil_iff]
    intro o ho q
    unfold lst1 at q
    simp only [Bool.and_eq_true, decide_eq_true_eq] at q
    obtain ⟨q1, q2, q3⟩ := q
    obtain ⟨s, y, hy, k1, k2⟩ := above h (evr_lp h ho)
    have st : s = t := by
      rcases Nat.lt_trichotomy s t with c | c | c
      · have := h.mono s y hy (t - s) z (by rw [show s + (t - s) = t by omega]; exact hx)
        omega
      · exact c
      · have := h.mono t z hx (s - t) y (by rw [show t + (s - t) = s by omega]; exact hy)
        omega
    subst st
    rw [hx] at hy
    cases hy
    exact q1 (Prod.ext (by omega) (by omega))
end K12

set_option Elab.async false
set_option linter.all false
set_option maxRecDepth 100000
set_option maxHeartbeats 4000000
namespace K12
open PySem Dv
theorem sp_need_pair (p : Q2) (h : PO p) (k : Rv → Prop) (E : Exn → Prop) (hk : k (.val .non)) : F_need_pair [dp p] k E := by
  simp [F_need_pair, dfS, startD, sCons, sNil, sSetN, sSetB, sOwnN, sOwnB, sIf, sRetB, sRetNone, sRetO, sFor, sAsgN, sAsgB, sAsgF, gTupL_l, sParN, sParB, slotR, lfR, sExpr, sAppN, sAppB, augI, gTup_t, gCons_c, gCons_n, gNil_n, gNil_c, gN, dVar, dC, vR, rV, rBin, cBin, bV, bTru, bNot, bAnd, bOr, vAnd, vOr, vNot, rIf, vIf, dNeg, dTup, dLst, dTupS, dLstS, aNil, aCons, aStar, rCall, dCall, dCallK, pick, on1, on2, dLen, i1, i2, dInt, dIsi, dTru, dFld, rCut, rRev, dRevS, oNone, oSome, dCut, iOf, iArg, zip2_e, enu1_e, rng1, rng2, rComp, bYes, cChain, cChain3, dInB, inD, D.fl, toV, L2.eqV, dAdd, dSub, dMul, dMulA, dFd, dMd, dPw, iI, iC, frz, viewN, viewB, wipeV, toSl, D.items, vDr, iDr, sDrPut, rDrNext, vDct, sNever, L2.atI, dIx, dList, dTuple, dEq, dNe, D.okd, okdL, D.eqb, PyData.eqv, D.py, pyL, dSum, dSumA, dSorted, dAll, dAny, L2.ixN, dNotB, dIsB, dIsN, dNotN, D.isNon, sDrPull, sRaise0, vDct1, dCaught, dfL, dNeS, sRaise1, dXf, dEqO, dmS, jCons, jFlds, iCons, iNil, putD, sParsN, sParsB, rsN, putK, lfRs, lfR, dCallV, sCaughtApp, dNeO, sFz, rLRg1, rLRg2, dLRg, gTupL_l, vDctI, rComp2]
  refine sp_is_pair p _ _ ?_
  rw [decide_eq_true h]
  simp [dfS, startD, sCons, sNil, sSetN, sSetB, sOwnN, sOwnB, sIf, sRetB, sRetNone, sRetO, sFor, sAsgN, sAsgB, sAsgF, gTupL_l, sParN, sParB, slotR, lfR, sExpr, sAppN, sAppB, augI, gTup_t, gCons_c, gCons_n, gNil_n, gNil_c, gN, dVar, dC, vR, rV, rBin, cBin, bV, bTru, bNot, bAnd, bOr, vAnd, vOr, vNot, rIf, vIf, dNeg, dTup, dLst, dTupS, dLstS, aNil, aCons, aStar, rCall, dCall, dCallK, pick, on1, on2, dLen, i1, i2, dInt, dIsi, dTru, dFld, rCut, rRev, dRevS, oNone, oSome, dCut, iOf, iArg, zip2_e, enu1_e, rng1, rng2, rComp, bYes, cChain, cChain3, dInB, inD, D.fl, toV, L2.eqV, dAdd, dSub, dMul, dMulA, dFd, dMd, dPw, iI, iC, frz, viewN, viewB, wipeV, toSl, D.items, vDr, iDr, sDrPut, rDrNext, vDct, sNever, L2.atI, dIx, dList, dTuple, dEq, dNe, D.okd, okdL, D.eqb, PyData.eqv, D.py, pyL, dSum, dSumA, dSorted, dAll, dAny, L2.ixN, dNotB, dIsB, dIsN, dNotN, D.isNon, sDrPull, sRaise0, vDct1, dCaught, dfL, dNeS, sRaise1, dXf, dEqO, dmS, jCons, jFlds, iCons, iNil, putD, sParsN, sParsB, rsN, putK, lfRs, lfR, dCallV, sCaughtApp, dNeO, sFz, rLRg1, rLRg2, dLRg, gTupL_l, vDctI, rComp2]
  exact hk
theorem need_pair_bad (d : D) (h : ∀ (k : Rv → Prop) (E : Exn → Prop), k (.val (.bl false)) → F_is_pair [d] k E) (k : Rv → Prop) (E : Exn → Prop) (hE : E ⟨"BadPair", []⟩) : F_need_pair [d] k E := by
  simp [F_need_pair, dfS, startD, sCons, sNil, sSetN, sSetB, sOwnN, sOwnB, sIf, sRetB, sRetNone, sRetO, sFor, sAsgN, sAsgB, sAsgF, gTupL_l, sParN, sParB, slotR, lfR, sExpr, sAppN, sAppB, augI, gTup_t, gCons_c, gCons_n, gNil_n, gNil_c, gN, dVar, dC, vR, rV, rBin, cBin, bV, bTru, bNot, bAnd, bOr, vAnd, vOr, vNot, rIf, vIf, dNeg, dTup, dLst, dTupS, dLstS, aNil, aCons, aStar, rCall, dCall, dCallK, pick, on1, on2, dLen, i1, i2, dInt, dIsi, dTru, dFld, rCut, rRev, dRevS, oNone, oSome, dCut, iOf, iArg, zip2_e, enu1_e, rng1, rng2, rComp, bYes, cChain, cChain3, dInB, inD, D.fl, toV, L2.eqV, dAdd, dSub, dMul, dMulA, dFd, dMd, dPw, iI, iC, frz, viewN, viewB, wipeV, toSl, D.items, vDr, iDr, sDrPut, rDrNext, vDct, sNever, L2.atI, dIx, dList, dTuple, dEq, dNe, D.okd, okdL, D.eqb, PyData.eqv, D.py, pyL, dSum, dSumA, dSorted, dAll, dAny, L2.ixN, dNotB, dIsB, dIsN, dNotN, D.isNon, sDrPull, sRaise0, vDct1, dCaught, dfL, dNeS, sRaise1, dXf, dEqO, dmS, jCons, jFlds, iCons, iNil, putD, sParsN, sParsB, rsN, putK, lfRs, lfR, dCallV, sCaughtApp, dNeO, sFz, rLRg1, rLRg2, dLRg, gTupL_l, vDctI, rComp2]
  refine h _ _ ?_
  simp [dfS, startD, sCons, sNil, sSetN, sSetB, sOwnN, sOwnB, sIf, sRetB, sRetNone, sRetO, sFor, sAsgN, sAsgB, sAsgF, gTupL_l, sParN, sParB, slotR, lfR, sExpr, sAppN, sAppB, augI, gTup_t, gCons_c, gCons_n, gNil_n, gNil_c, gN, dVar, dC, vR, rV, rBin, cBin, bV, bTru, bNot, bAnd, bOr, vAnd, vOr, vNot, rIf, vIf, dNeg, dTup, dLst, dTupS, dLstS, aNil, aCons, aStar, rCall, dCall, dCallK, pick, on1, on2, dLen, i1, i2, dInt, dIsi, dTru, dFld, rCut, rRev, dRevS, oNone, oSome, dCut, iOf, iArg, zip2_e, enu1_e, rng1, rng2, rComp, bYes, cChain, cChain3, dInB, inD, D.fl, toV, L2.eqV, dAdd, dSub, dMul, dMulA, dFd, dMd, dPw, iI, iC, frz, viewN, viewB, wipeV, toSl, D.items, vDr, iDr, sDrPut, rDrNext, vDct, sNever, L2.atI, dIx, dList, dTuple, dEq, dNe, D.okd, okdL, D.eqb, PyData.eqv, D.py, pyL, dSum, dSumA, dSorted, dAll, dAny, L2.ixN, dNotB, dIsB, dIsN, dNotN, D.isNon, sDrPull, sRaise0, vDct1, dCaught, dfL, dNeS, sRaise1, dXf, dEqO, dmS, jCons, jFlds, iCons, iNil, putD, sParsN, sParsB, rsN, putK, lfRs, lfR, dCallV, sCaughtApp, dNeO, sFz, rLRg1, rLRg2, dLRg, gTupL_l, vDctI, rComp2]
  exact hE
theorem PO.b {p : Q2} (h : PO p) : p.2.natAbs < 2 ^ 1000 := by
  have := h.1
  exact Nat.lt_trans (by omega : p.2.natAbs < 2 ^ 100) (by decide)
theorem PO.pk {p : Q2} (h : PO p) {L : List Int} (hL : Leg L p.1 p.2) : Pk p.1 p.2 L := ⟨h.1.1, h.1.2.1, h.2, hL⟩
theorem PO.num {p : Q2} (h : PO p) {L : List Int} (hL : Leg L p.1 p.2) : ∀ n ∈ L, 2 ≤ n ∧ n ≤ p.2 + 1 := fun n hn => by
  obtain ⟨e, g⟩ := leg_fr hL h.1.1 h.1.2.1 h.2
  have := num_le g n hn
  rw [e] at this
  exact ⟨g n hn, this⟩
theorem cut_2 {xs : List D} {x y : D} : cutD (xs ++ [x, y]) (some (-2)) none = [x, y] := by
  unfold cutD HT.sIx
  simp
  rw [show (-2 + ((xs.length : Int) + 2)).toNat = xs.length by omega]
  simp
theorem take_two {α : Type} {l : List α} {t : Nat} {x y : α} (hx : l[t]? = some x) (hy : l[t + 1]? = some y) : l.take (t + 2) = l.take t ++ [x, y] := by
  obtain ⟨h1, e1⟩ := List.getElem?_eq_some_iff.mp hx
  obtain ⟨h2, e2⟩ := List.getElem?_eq_some_iff.mp hy
  rw [List.take_add_one, List.take_add_one, hx, hy]
  simp
def many : Exn := ⟨"TooMany", [("most", .int 400)]⟩
theorem lf_dp (q : Q2) : (dp q).lf = true := rfl
theorem sp_points_of (p : Q2) (h : PO p) (L : List Int) (hL : Leg L p.1 p.2) (k : Rv → Prop) (E : Exn → Prop) (hk : L.length ≤ 400 → k (.new ((pL p.1 p.2 L).map dp))) (hE : 400 < L.length → E many) : F_points_of [dp p] k E := by
  have hz := szl
  have pk := h.pk hL
  have hb := h.1.2.2
  simp [F_points_of, dp, dfS, startD, sCons, sNil, sSetN, sSetB, sOwnN, sOwnB, sIf, sRetB, sRetNone, sRetO, sFor, sAsgN, sAsgB, sAsgF, gTupL_l, sParN, sParB, slotR, lfR, sExpr, sAppN, sAppB, augI, gTup_t, gCons_c, gCons_n, gNil_n, gNil_c, gN, dVar, dC, vR, rV, rBin, cBin, bV, bTru, bNot, bAnd, bOr, vAnd, vOr, vNot, rIf, vIf, dNeg, dTup, dLst, dTupS, dLstS, aNil, aCons, aStar, rCall, dCall, dCallK, pick, on1, on2, dLen, i1, i2, dInt, dIsi, dTru, dFld, rCut, rRev, dRevS, oNone, oSome, dCut, iOf, iArg, zip2_e, enu1_e, rng1, rng2, rComp, bYes, cChain, cChain3, dInB, inD, D.fl, toV, L2.eqV, dAdd, dSub, dMul, dMulA, dFd, dMd, dPw, iI, iC, frz, viewN, viewB, wipeV, toSl, D.items, vDr, iDr, sDrPut, rDrNext, vDct, sNever, L2.atI, dIx, dList, dTuple, dEq, dNe, D.okd, okdL, D.eqb, PyData.eqv, D.py, pyL, dSum, dSumA, dSorted, dAll, dAny, L2.ixN, dNotB, dIsB, dIsN, dNotN, D.isNon, sDrPull, sRaise0, vDct1, dCaught, dfL, dNeS, sRaise1, dXf, dEqO, dmS, jCons, jFlds, iCons, iNil, putD, sParsN, sParsB, rsN, putK, lfRs, lfR, dCallV, sCaughtApp, dNeO, sFz, rLRg1, rLRg2, dLRg, gTupL_l, vDctI, rComp2]
  refine sp_leg_numbers p.1 p.2 h.1.1 h.1.2.1 h.b L hL _ _ (fun hl => ?_) hE
  simp [dfS, startD, sCons, sNil, sSetN, sSetB, sOwnN, sOwnB, sIf, sRetB, sRetNone, sRetO, sFor, sAsgN, sAsgB, sAsgF, gTupL_l, sParN, sParB, slotR, lfR, sExpr, sAppN, sAppB, augI, gTup_t, gCons_c, gCons_n, gNil_n, gNil_c, gN, dVar, dC, vR, rV, rBin, cBin, bV, bTru, bNot, bAnd, bOr, vAnd, vOr, vNot, rIf, vIf, dNeg, dTup, dLst, dTupS, dLstS, aNil, aCons, aStar, rCall, dCall, dCallK, pick, on1, on2, dLen, i1, i2, dInt, dIsi, dTru, dFld, rCut, rRev, dRevS, oNone, oSome, dCut, iOf, iArg, zip2_e, enu1_e, rng1, rng2, rComp, bYes, cChain, cChain3, dInB, inD, D.fl, toV, L2.eqV, dAdd, dSub, dMul, dMulA, dFd, dMd, dPw, iI, iC, frz, viewN, viewB, wipeV, toSl, D.items, vDr, iDr, sDrPut, rDrNext, vDct, sNever, L2.atI, dIx, dList, dTuple, dEq, dNe, D.okd, okdL, D.eqb, PyData.eqv, D.py, pyL, dSum, dSumA, dSorted, dAll, dAny, L2.ixN, dNotB, dIsB, dIsN, dNotN, D.isNon, sDrPull, sRaise0, vDct1, dCaught, dfL, dNeS, sRaise1, dXf, dEqO, dmS, jCons, jFlds, iCons, iNil, putD, sParsN, sParsB, rsN, putK, lfRs, lfR, dCallV, sCaughtApp, dNeO, sFz, rLRg1, rLRg2, dLRg, gTupL_l, vDctI, rComp2]
  refine forD_ml D.int (fun (post : List Int) ρ => ∃ (pre : List Int) (x4 x5 x6 x7 x8 : Option Slot), L = pre ++ post ∧ ρ = [some (.val (dp p)), some (.val (.int p.1)), some (.val (.int p.2)), some (.own (((pL p.1 p.2 L).take (pre.length + 2)).map dp)), x4, x5, x6, x7, x8]) ?_ ?_ _ _ ⟨[], none, none, none, none, none, rfl, ?_⟩
  · rintro n post ρ ⟨pre, x4, x5, x6, x7, x8, e, rfl⟩ κ hκ
    have lt : L.length = pre.length + (post.length + 1) := by rw [e, List.length_append, List.length_cons]
    obtain ⟨x, hx⟩ := Pk.get (w := p.1) (a := p.2) (l := L) (t := pre.length) (by omega)
    obtain ⟨y, hy⟩ := Pk.get (w := p.1) (a := p.2) (l := L) (t := pre.length + 1) (by omega)
    have hn : L[pre.length]? = some n := by rw [e]; simp
    have st := pts_step pre.length n x y hn hx hy
    have nb := h.num hL n (by rw [e]; simp)
    have yb := pk.low hy
    rw [take_two hx hy, List.map_append]
    have ec : cutD (((pL p.1 p.2 L).take pre.length).map dp ++ [x, y].map dp) (some (-2)) none = [dp x, dp y] := cut_2
    simp [-List.map_take, dfS, startD, sCons, sNil, sSetN, sSetB, sOwnN, sOwnB, sIf, sRetB, sRetNone, sRetO, sFor, sAsgN, sAsgB, sAsgF, gTupL_l, sParN, sParB, slotR, lfR, sExpr, sAppN, sAppB, augI, gTup_t, gCons_c, gCons_n, gNil_n, gNil_c, gN, dVar, dC, vR, rV, rBin, cBin, bV, bTru, bNot, bAnd, bOr, vAnd, vOr, vNot, rIf, vIf, dNeg, dTup, dLst, dTupS, dLstS, aNil, aCons, aStar, rCall, dCall, dCallK, pick, on1, on2, dLen, i1, i2, dInt, dIsi, dTru, dFld, rCut, rRev, dRevS, oNone, oSome, dCut, iOf, iArg, zip2_e, enu1_e, rng1, rng2, rComp, bYes, cChain, cChain3, dInB, inD, D.fl, toV, L2.eqV, dAdd, dSub, dMul, dMulA, dFd, dMd, dPw, iI, iC, frz, viewN, viewB, wipeV, toSl, D.items, vDr, iDr, sDrPut, rDrNext, vDct, sNever, L2.atI, dIx, dList, dTuple, dEq, dNe, D.okd, okdL, D.eqb, PyData.eqv, D.py, pyL, dSum, dSumA, dSorted, dAll, dAny, dNotB, dIsB, dIsN, dNotN, D.isNon, sDrPull, sRaise0, vDct1, dCaught, dfL, dNeS, sRaise1, dXf, dEqO, dmS, jCons, jFlds, iCons, iNil, putD, sParsN, sParsB, rsN, putK, lfRs, lfR, dCallV, sCaughtApp, dNeO, sFz, rLRg1, rLRg2, dLRg, gTupL_l, vDctI, rComp2]
    rw [show List.map dp (List.take pre.length (pL p.1 p.2 L)) ++ [dp x, dp y] = ((pL p.1 p.2 L).take pre.length).map dp ++ [x, y].map dp from rfl, ec]
    simp [dp, -List.map_take, dfS, startD, sCons, sNil, sSetN, sSetB, sOwnN, sOwnB, sIf, sRetB, sRetNone, sRetO, sFor, sAsgN, sAsgB, sAsgF, gTupL_l, sParN, sParB, slotR, lfR, sExpr, sAppN, sAppB, augI, gTup_t, gCons_c, gCons_n, gNil_n, gNil_c, gN, dVar, dC, vR, rV, rBin, cBin, bV, bTru, bNot, bAnd, bOr, vAnd, vOr, vNot, rIf, vIf, dNeg, dTup, dLst, dTupS, dLstS, aNil, aCons, aStar, rCall, dCall, dCallK, pick, on1, on2, dLen, i1, i2, dInt, dIsi, dTru, dFld, rCut, rRev, dRevS, oNone, oSome, dCut, iOf, iArg, zip2_e, enu1_e, rng1, rng2, rComp, bYes, cChain, cChain3, dInB, inD, D.fl, toV, L2.eqV, dAdd, dSub, dMul, dMulA, dFd, dMd, dPw, iI, iC, frz, viewN, viewB, wipeV, toSl, D.items, vDr, iDr, sDrPut, rDrNext, vDct, sNever, L2.atI, dIx, dList, dTuple, dEq, dNe, D.okd, okdL, D.eqb, PyData.eqv, D.py, pyL, dSum, dSumA, dSorted, dAll, dAny, dNotB, dIsB, dIsN, dNotN, D.isNon, sDrPull, sRaise0, vDct1, dCaught, dfL, dNeS, sRaise1, dXf, dEqO, dmS, jCons, jFlds, iCons, iNil, putD, sParsN, sParsB, rsN, putK, lfRs, lfR, dCallV, sCaughtApp, dNeO, sFz, rLRg1, rLRg2, dLRg, gTupL_l, vDctI, rComp2]
    have tk : (pL p.1 p.2 L).take ((pre ++ [n]).length + 2) = (pL p.1 p.2 L).take pre.length ++ [x, y, (n * y.1 - x.1, n * y.2 - x.2)] := by
      rw [List.length_append, List.length_singleton, show pre.length + 1 + 2 = pre.length + 2 + 1 by omega, List.take_add_one, take_two hx hy]
      have st' : (pL p.1 p.2 L)[pre.length + 2]? = some (n * y.1 - x.1, n * y.2 - x.2) := st
      rw [st']
      simp
    have nw : n.natAbs < 2 ^ 2000 := Nat.lt_trans (by omega : n.natAbs < 2 ^ 200) (by decide)
    have y1w : y.1.natAbs < 2 ^ 2000 := Nat.lt_trans (by omega : y.1.natAbs < 2 ^ 200) (by decide)
    have y2w : y.2.natAbs < 2 ^ 2000 := Nat.lt_trans (by omega : y.2.natAbs < 2 ^ 200) (by decide)
    refine ⟨by simp [D.lf.lfL, D.lf], mulokW _ _ nw y1w, mulokW _ _ nw y2w, by rw [Pk.len]; omega, ?_⟩
    exact hκ _ ⟨pre ++ [n], _, _, _, _, _, by rw [e]; simp, by rw [tk, List.map_append]; rfl⟩
  · rintro ρ ⟨pre, x4, x5, x6, x7, x8, e, rfl⟩
    rw [List.append_nil] at e
    subst e
    simp [-List.map_take, dfS, startD, sCons, sNil, sSetN, sSetB, sOwnN, sOwnB, sIf, sRetB, sRetNone, sRetO, sFor, sAsgN, sAsgB, sAsgF, gTupL_l, sParN, sParB, slotR, lfR, sExpr, sAppN, sAppB, augI, gTup_t, gCons_c, gCons_n, gNil_n, gNil_c, gN, dVar, dC, vR, rV, rBin, cBin, bV, bTru, bNot, bAnd, bOr, vAnd, vOr, vNot, rIf, vIf, dNeg, dTup, dLst, dTupS, dLstS, aNil, aCons, aStar, rCall, dCall, dCallK, pick, on1, on2, dLen, i1, i2, dInt, dIsi, dTru, dFld, rCut, rRev, dRevS, oNone, oSome, dCut, iOf, iArg, zip2_e, enu1_e, rng1, rng2, rComp, bYes, cChain, cChain3, dInB, inD, D.fl, toV, L2.eqV, dAdd, dSub, dMul, dMulA, dFd, dMd, dPw, iI, iC, frz, viewN, viewB, wipeV, toSl, D.items, vDr, iDr, sDrPut, rDrNext, vDct, sNever, L2.atI, dIx, dList, dTuple, dEq, dNe, D.okd, okdL, D.eqb, PyData.eqv, D.py, pyL, dSum, dSumA, dSorted, dAll, dAny, L2.ixN, dNotB, dIsB, dIsN, dNotN, D.isNon, sDrPull, sRaise0, vDct1, dCaught, dfL, dNeS, sRaise1, dXf, dEqO, dmS, jCons, jFlds, iCons, iNil, putD, sParsN, sParsB, rsN, putK, lfRs, lfR, dCallV, sCaughtApp, dNeO, sFz, rLRg1, rLRg2, dLRg, gTupL_l, vDctI, rComp2]
    have : (pL p.1 p.2 L).take (L.length + 2) = pL p.1 p.2 L := List.take_of_length_le (by rw [Pk.len]; omega)
    rw [this]
    exact hk hl
  · have : (pL p.1 p.2 L).take (0 + 2) = [(0, p.2), (1, p.1)] := by
      have e := pts_0 L (0, p.2) (1, p.1)
      exact take_two (t := 0) e.1 e.2
    rw [List.length_nil, this]
    rfl
theorem sp_leg_points (p : Q2) (h : PO p) (L : List Int) (hL : Leg L p.1 p.2) (k : Rv → Prop) (E : Exn → Prop) (hk : L.length ≤ 400 → k (.new ((pL p.1 p.2 L).map dp))) (hE : 400 < L.length → E many) : F_leg_points [dp p] k E := by
  simp [F_leg_points, dfS, startD, sCons, sNil, sSetN, sSetB, sOwnN, sOwnB, sIf, sRetB, sRetNone, sRetO, sFor, sAsgN, sAsgB, sAsgF, gTupL_l, sParN, sParB, slotR, lfR, sExpr, sAppN, sAppB, augI, gTup_t, gCons_c, gCons_n, gNil_n, gNil_c, gN, dVar, dC, vR, rV, rBin, cBin, bV, bTru, bNot, bAnd, bOr, vAnd, vOr, vNot, rIf, vIf, dNeg, dTup, dLst, dTupS, dLstS, aNil, aCons, aStar, rCall, dCall, dCallK, pick, on1, on2, dLen, i1, i2, dInt, dIsi, dTru, dFld, rCut, rRev, dRevS, oNone, oSome, dCut, iOf, iArg, zip2_e, enu1_e, rng1, rng2, rComp, bYes, cChain, cChain3, dInB, inD, D.fl, toV, L2.eqV, dAdd, dSub, dMul, dMulA, dFd, dMd, dPw, iI, iC, frz, viewN, viewB, wipeV, toSl, D.items, vDr, iDr, sDrPut, rDrNext, vDct, sNever, L2.atI, dIx, dList, dTuple, dEq, dNe, D.okd, okdL, D.eqb, PyData.eqv, D.py, pyL, dSum, dSumA, dSorted, dAll, dAny, L2.ixN, dNotB, dIsB, dIsN, dNotN, D.isNon, sDrPull, sRaise0, vDct1, dCaught, dfL, dNeS, sRaise1, dXf, dEqO, dmS, jCons, jFlds, iCons, iNil, putD, sParsN, sParsB, rsN, putK, lfRs, lfR, dCallV, sCaughtApp, dNeO, sFz, rLRg1, rLRg2, dLRg, gTupL_l, vDctI, rComp2]
  refine sp_need_pair p h _ _ ?_
  exact sp_points_of p h L hL _ _ hk hE
def ptB (p z : Q2) : Bool := decide (0 ≤ z.1) && (decide (0 ≤ z.2) && (decide (0 < z.1 + z.2) && decide ((z.2 - p.1 * z.1) % p.2 = 0)))
theorem ptB_lp {p z : Q2} : ptB p z = true ↔ Lp p.1 p.2 z := by
  unfold ptB
  simp only [Bool.and_eq_true, decide_eq_true_eq]
  exact ⟨fun ⟨a, b, c, d⟩ => ⟨a, b, c, Int.dvd_of_emod_eq_zero d⟩, fun h => ⟨h.i, h.j, h.p, Int.emod_eq_zero_of_dvd h.d⟩⟩
theorem sp_is_point_of (p : Q2) (h : PO p) (z : Q2) (hz1 : z.1.natAbs < 2 ^ 1000) (k : Rv → Prop) (E : Exn → Prop) (hk : k (.val (.bl (ptB p z)))) : F_is_point_of [dp p, dp z] k E := by
  have h2 := h.1
  simp [F_is_point_of, dp, dfS, startD, sCons, sNil, sSetN, sSetB, sOwnN, sOwnB, sIf, sRetB, sRetNone, sRetO, sFor, sAsgN, sAsgB, sAsgF, gTupL_l, sParN, sParB, slotR, lfR, sExpr, sAppN, sAppB, augI, gTup_t, gCons_c, gCons_n, gNil_n, gNil_c, gN, dVar, dC, vR, rV, rBin, cBin, bV, bTru, bNot, bAnd, bOr, vAnd, vOr, vNot, rIf, vIf, dNeg, dTup, dLst, dTupS, dLstS, aNil, aCons, aStar, rCall, dCall, dCallK, pick, on1, on2, dLen, i1, i2, dInt, dIsi, dTru, dFld, rCut, rRev, dRevS, oNone, oSome, dCut, iOf, iArg, zip2_e, enu1_e, rng1, rng2, rComp, bYes, cChain, cChain3, dInB, inD, D.fl, toV, L2.eqV, dAdd, dSub, dMul, dMulA, dFd, dMd, dPw, iI, iC, frz, viewN, viewB, wipeV, toSl, D.items, vDr, iDr, sDrPut, rDrNext, vDct, sNever, L2.atI, dIx, dList, dTuple, dEq, dNe, D.okd, okdL, D.eqb, PyData.eqv, D.py, pyL, dSum, dSumA, dSorted, dAll, dAny, L2.ixN, dNotB, dIsB, dIsN, dNotN, D.isNon, sDrPull, sRaise0, vDct1, dCaught, dfL, dNeS, sRaise1, dXf, dEqO, dmS, jCons, jFlds, iCons, iNil, putD, sParsN, sParsB, rsN, putK, lfRs, lfR, dCallV, sCaughtApp, dNeO, sFz, rLRg1, rLRg2, dLRg, gTupL_l, vDctI, rComp2]
  refine sp_is_tuple _ _ _ _ ?_
  simp [dfS, startD, sCons, sNil, sSetN, sSetB, sOwnN, sOwnB, sIf, sRetB, sRetNone, sRetO, sFor, sAsgN, sAsgB, sAsgF, gTupL_l, sParN, sParB, slotR, lfR, sExpr, sAppN, sAppB, augI, gTup_t, gCons_c, gCons_n, gNil_n, gNil_c, gN, dVar, dC, vR, rV, rBin, cBin, bV, bTru, bNot, bAnd, bOr, vAnd, vOr, vNot, rIf, vIf, dNeg, dTup, dLst, dTupS, dLstS, aNil, aCons, aStar, rCall, dCall, dCallK, pick, on1, on2, dLen, i1, i2, dInt, dIsi, dTru, dFld, rCut, rRev, dRevS, oNone, oSome, dCut, iOf, iArg, zip2_e, enu1_e, rng1, rng2, rComp, bYes, cChain, cChain3, dInB, inD, D.fl, toV, L2.eqV, dAdd, dSub, dMul, dMulA, dFd, dMd, dPw, iI, iC, frz, viewN, viewB, wipeV, toSl, D.items, vDr, iDr, sDrPut, rDrNext, vDct, sNever, L2.atI, dIx, dList, dTuple, dEq, dNe, D.okd, okdL, D.eqb, PyData.eqv, D.py, pyL, dSum, dSumA, dSorted, dAll, dAny, L2.ixN, dNotB, dIsB, dIsN, dNotN, D.isNon, sDrPull, sRaise0, vDct1, dCaught, dfL, dNeS, sRaise1, dXf, dEqO, dmS, jCons, jFlds, iCons, iNil, putD, sParsN, sParsB, rsN, putK, lfRs, lfR, dCallV, sCaughtApp, dNeO, sFz, rLRg1, rLRg2, dLRg, gTupL_l, vDctI, rComp2]
  refine sp_num_int _ _ _ ?_
  simp [dfS, startD, sCons, sNil, sSetN, sSetB, sOwnN, sOwnB, sIf, sRetB, sRetNone, sRetO, sFor, sAsgN, sAsgB, sAsgF, gTupL_l, sParN, sParB, slotR, lfR, sExpr, sAppN, sAppB, augI, gTup_t, gCons_c, gCons_n, gNil_n, gNil_c, gN, dVar, dC, vR, rV, rBin, cBin, bV, bTru, bNot, bAnd, bOr, vAnd, vOr, vNot, rIf, vIf, dNeg, dTup, dLst, dTupS, dLstS, aNil, aCons, aStar, rCall, dCall, dCallK, pick, on1, on2, dLen, i1, i2, dInt, dIsi, dTru, dFld, rCut, rRev, dRevS, oNone, oSome, dCut, iOf, iArg, zip2_e, enu1_e, rng1, rng2, rComp, bYes, cChain, cChain3, dInB, inD, D.fl, toV, L2.eqV, dAdd, dSub, dMul, dMulA, dFd, dMd, dPw, iI, iC, frz, viewN, viewB, wipeV, toSl, D.items, vDr, iDr, sDrPut, rDrNext, vDct, sNever, L2.atI, dIx, dList, dTuple, dEq, dNe, D.okd, okdL, D.eqb, PyData.eqv, D.py, pyL, dSum, dSumA, dSorted, dAll, dAny, L2.ixN, dNotB, dIsB, dIsN, dNotN, D.isNon, sDrPull, sRaise0, vDct1, dCaught, dfL, dNeS, sRaise1, dXf, dEqO, dmS, jCons, jFlds, iCons, iNil, putD, sParsN, sParsB, rsN, putK, lfRs, lfR, dCallV, sCaughtApp, dNeO, sFz, rLRg1, rLRg2, dLRg, gTupL_l, vDctI, rComp2]
  refine sp_num_int _ _ _ ?_
  simp [dfS, startD, sCons, sNil, sSetN, sSetB, sOwnN, sOwnB, sIf, sRetB, sRetNone, sRetO, sFor, sAsgN, sAsgB, sAsgF, gTupL_l, sParN, sParB, slotR, lfR, sExpr, sAppN, sAppB, augI, gTup_t, gCons_c, gCons_n, gNil_n, gNil_c, gN, dVar, dC, vR, rV, rBin, cBin, bV, bTru, bNot, bAnd, bOr, vAnd, vOr, vNot, rIf, vIf, dNeg, dTup, dLst, dTupS, dLstS, aNil, aCons, aStar, rCall, dCall, dCallK, pick, on1, on2, dLen, i1, i2, dInt, dIsi, dTru, dFld, rCut, rRev, dRevS, oNone, oSome, dCut, iOf, iArg, zip2_e, enu1_e, rng1, rng2, rComp, bYes, cChain, cChain3, dInB, inD, D.fl, toV, L2.eqV, dAdd, dSub, dMul, dMulA, dFd, dMd, dPw, iI, iC, frz, viewN, viewB, wipeV, toSl, D.items, vDr, iDr, sDrPut, rDrNext, vDct, sNever, L2.atI, dIx, dList, dTuple, dEq, dNe, D.okd, okdL, D.eqb, PyData.eqv, D.py, pyL, dSum, dSumA, dSorted, dAll, dAny, L2.ixN, dNotB, dIsB, dIsN, dNotN, D.isNon, sDrPull, sRaise0, vDct1, dCaught, dfL, dNeS, sRaise1, dXf, dEqO, dmS, jCons, jFlds, iCons, iNil, putD, sParsN, sParsB, rsN, putK, lfRs, lfR, dCallV, sCaughtApp, dNeO, sFz, rLRg1, rLRg2, dLRg, gTupL_l, vDctI, rComp2]
  have pw : p.1.natAbs < 2 ^ 1000 := Nat.lt_of_le_of_lt (by omega : p.1.natAbs ≤ p.2.natAbs) h.b
  have no1 : ptB p z = false → k (.val (.bl false)) := fun e => by rw [e] at hk; exact hk
  refine ⟨fun c1 => ⟨fun c2 => ⟨fun c3 => ⟨mulokW _ _ (Nat.lt_trans pw (by decide)) (Nat.lt_trans hz1 (by decide)), by omega, ?_⟩, fun c3 => ?_⟩, fun c2 => ?_⟩, fun c1 => ?_⟩
  · rw [fmod_pos _ (by omega)]
    have e : ptB p z = ((z.2 - p.1 * z.1) % p.2 == 0) := by
      unfold ptB
      rw [decide_eq_true c1, decide_eq_true c2, decide_eq_true c3]
      rfl
    rw [← e]; exact hk
  · rw [decide_eq_false (by omega)]
    exact no1 (by unfold ptB; rw [decide_eq_true c1, decide_eq_true c2, decide_eq_false (by omega)]; rfl)
  · rw [decide_eq_false (by omega)]
    exact no1 (by unfold ptB; rw [decide_eq_true c1, decide_eq_false (by omega)]; rfl)
  · rw [decide_eq_false (by omega)]
    exact no1 (by unfold ptB; rw [decide_eq_false (by omega)]; rfl)
theorem enu_map (ps : List Q2) : enuD (ps.map dp) = ps.zipIdx.map fun z => .tup [.int (z.2 : Nat), dp z.1] := by
  unfold enuD
  rw [List.zipIdx_map, List.map_map]
  rfl
theorem get_dp {ps : List Q2} {t : Nat} {x : Q2} (hx : ps[t]? = some x) : (L2.ixN ps.length (t : Int)).bind (fun j => (ps[j]?).map dp) = some (dp x) := by
  have := (List.getElem?_eq_some_iff.mp hx).1
  rw [ix_nat (by omega) (by omega)]
  show ((ps[(t : Int).toNat]?).map dp) = _
  rw [show (t : Int).toNat = t by omega, hx]
  rfl
theorem sp_point_sum (p : Q2) (h : PO p) (L : List Int) (hL : Leg L p.1 p.2) (hl : L.length ≤ 400) (z : Q2) (hz1 : z.1.natAbs < 2 ^ 1000) (hz2 : z.2.natAbs < 2 ^ 1000) (lp : Lp p.1 p.2 z) (k : Rv → Prop) (E : Exn → Prop) (hk : ∀ (t : Nat) (m n : Int), Rs p.1 p.2 L z t m n → k (.val (.tup [.int t, .int m, .int n]))) : F_point_sum [dp p, dp z] k E := by
  have hz := szl
  have h2 := h.1
  have pk := h.pk hL
  simp [F_point_sum, dfS, startD, sCons, sNil, sSetN, sSetB, sOwnN, sOwnB, sIf, sRetB, sRetNone, sRetO, sFor, sAsgN, sAsgB, sAsgF, gTupL_l, sParN, sParB, slotR, lfR, sExpr, sAppN, sAppB, augI, gTup_t, gCons_c, gCons_n, gNil_n, gNil_c, gN, dVar, dC, vR, rV, rBin, cBin, bV, bTru, bNot, bAnd, bOr, vAnd, vOr, vNot, rIf, vIf, dNeg, dTup, dLst, dTupS, dLstS, aNil, aCons, aStar, rCall, dCall, dCallK, pick, on1, on2, dLen, i1, i2, dInt, dIsi, dTru, dFld, rCut, rRev, dRevS, oNone, oSome, dCut, iOf, iArg, zip2_e, enu1_e, rng1, rng2, rComp, bYes, cChain, cChain3, dInB, inD, D.fl, toV, L2.eqV, dAdd, dSub, dMul, dMulA, dFd, dMd, dPw, iI, iC, frz, viewN, viewB, wipeV, toSl, D.items, vDr, iDr, sDrPut, rDrNext, vDct, sNever, L2.atI, dIx, dList, dTuple, dEq, dNe, D.okd, okdL, D.eqb, PyData.eqv, D.py, pyL, dSum, dSumA, dSorted, dAll, dAny, L2.ixN, dNotB, dIsB, dIsN, dNotN, D.isNon, sDrPull, sRaise0, vDct1, dCaught, dfL, dNeS, sRaise1, dXf, dEqO, dmS, jCons, jFlds, iCons, iNil, putD, sParsN, sParsB, rsN, putK, lfRs, lfR, dCallV, sCaughtApp, dNeO, sFz, rLRg1, rLRg2, dLRg, gTupL_l, vDctI, rComp2]
  refine sp_need_pair p h _ _ ?_
  refine sp_points_of p h L hL _ _ (fun _ => ?_) fun q => absurd q (by omega)
  refine sp_is_point_of p h z hz1 _ _ ?_
  rw [ptB_lp.mpr lp]
  simp [dp, dfS, startD, sCons, sNil, sSetN, sSetB, sOwnN, sOwnB, sIf, sRetB, sRetNone, sRetO, sFor, sAsgN, sAsgB, sAsgF, gTupL_l, sParN, sParB, slotR, lfR, sExpr, sAppN, sAppB, augI, gTup_t, gCons_c, gCons_n, gNil_n, gNil_c, gN, dVar, dC, vR, rV, rBin, cBin, bV, bTru, bNot, bAnd, bOr, vAnd, vOr, vNot, rIf, vIf, dNeg, dTup, dLst, dTupS, dLstS, aNil, aCons, aStar, rCall, dCall, dCallK, pick, on1, on2, dLen, i1, i2, dInt, dIsi, dTru, dFld, rCut, rRev, dRevS, oNone, oSome, dCut, iOf, iArg, zip2_e, enu1_e, rng1, rng2, rComp, bYes, cChain, cChain3, dInB, inD, D.fl, toV, L2.eqV, dAdd, dSub, dMul, dMulA, dFd, dMd, dPw, iI, iC, frz, viewN, viewB, wipeV, toSl, D.items, vDr, iDr, sDrPut, rDrNext, vDct, sNever, L2.atI, dIx, dList, dTuple, dEq, dNe, D.okd, okdL, D.eqb, PyData.eqv, D.py, pyL, dSum, dSumA, dSorted, dAll, dAny, dNotB, dIsB, dIsN, dNotN, D.isNon, sDrPull, sRaise0, vDct1, dCaught, dfL, dNeS, sRaise1, dXf, dEqO, dmS, jCons, jFlds, iCons, iNil, putD, sParsN, sParsB, rsN, putK, lfRs, lfR, dCallV, sCaughtApp, dNeO, sFz, rLRg1, rLRg2, dLRg, gTupL_l, vDctI, rComp2]
  have a0 := pk.a0
  have ec : cutD ((pL p.1 p.2 L).map dp) none (some (-1)) = ((pL p.1 p.2 L).dropLast).map dp := by
    rw [cut_last (by
      intro e
      have := congrArg List.length e
      rw [List.length_map, Pk.len] at this
      simp at this), List.map_dropLast]
  have dl : ∀ t x, (pL p.1 p.2 L).dropLast[t]? = some x ↔ t + 1 < (pL p.1 p.2 L).length ∧ (pL p.1 p.2 L)[t]? = some x := fun t x => by
    rw [List.getElem?_dropLast]
    by_cases q : t < (pL p.1 p.2 L).length - 1
    · rw [if_pos q]; exact ⟨fun e => ⟨by omega, e⟩, fun e => e.2⟩
    · rw [if_neg q]; exact ⟨(fun e => by cases e), fun e => absurd e.1 (by omega)⟩
  rw [ec, enu_map]
  refine forD_ml (fun z : Q2 × Nat => .tup [.int (z.2 : Nat), dp z.1]) (fun zs ρ => ∃ (s : Nat) (x : Q2) (b6 b7 b8 b9 b10 b11 b12 : Option Slot), zs = ((pL p.1 p.2 L).dropLast.zipIdx).drop s ∧ s < (pL p.1 p.2 L).length ∧ (pL p.1 p.2 L)[s]? = some x ∧ 0 ≤ cc z x ∧ ρ = [some (.val (dp p)), some (.val (dp z)), some (.val (.lst ((pL p.1 p.2 L).map dp))), some (.val (.int p.2)), some (.val (.int z.1)), some (.val (.int z.2)), b6, b7, b8, b9, b10, b11, b12]) ?_ ?_ _ _ ⟨0, (0, p.2), _, _, _, _, _, _, _, rfl, by rw [Pk.len]; omega, (pts_0 _ _ _).1, ?_, rfl⟩
  · rintro ⟨x', s'⟩ zs ρ ⟨s, x, b6, b7, b8, b9, b10, b11, b12, e, hs, hx, c0, rfl⟩ κ hκ
    have hd : ((pL p.1 p.2 L).dropLast.zipIdx)[s]? = some (x', s') := by
      have := congrArg (fun l => l[0]?) e
      rw [List.getElem?_drop] at this
      exact this.symm
    rw [List.getElem?_zipIdx] at hd
    obtain ⟨x2, hx2, e2⟩ := Option.map_eq_some_iff.mp hd
    cases e2
    obtain ⟨hl1, hx3⟩ := (dl s x').mp hx2
    rw [hx] at hx3
    cases hx3
    have ez : zs = ((pL p.1 p.2 L).dropLast.zipIdx).drop (s + 1) := by
      have := congrArg List.tail e
      rw [List.tail_drop] at this
      exact this
    obtain ⟨y, hy⟩ := Pk.get (w := p.1) (a := p.2) (l := L) (t := s + 1) (by rw [Pk.len] at hl1; omega)
    have gy := get_dp hy
    have xb := pk.low hx
    have yb := pk.low hy
    rw [show ((s + 1 : Nat) : Int) = (s : Int) + 1 by omega] at gy
    simp [dp, dfS, startD, sCons, sNil, sSetN, sSetB, sOwnN, sOwnB, sIf, sRetB, sRetNone, sRetO, sFor, sAsgN, sAsgB, sAsgF, gTupL_l, sParN, sParB, slotR, lfR, sExpr, sAppN, sAppB, augI, gTup_t, gCons_c, gCons_n, gNil_n, gNil_c, gN, dVar, dC, vR, rV, rBin, cBin, bV, bTru, bNot, bAnd, bOr, vAnd, vOr, vNot, rIf, vIf, dNeg, dTup, dLst, dTupS, dLstS, aNil, aCons, aStar, rCall, dCall, dCallK, pick, on1, on2, dLen, i1, i2, dInt, dIsi, dTru, dFld, rCut, rRev, dRevS, oNone, oSome, dCut, iOf, iArg, zip2_e, enu1_e, rng1, rng2, rComp, bYes, cChain, cChain3, dInB, inD, D.fl, toV, L2.eqV, dAdd, dSub, dMul, dMulA, dFd, dMd, dPw, iI, iC, frz, viewN, viewB, wipeV, toSl, D.items, vDr, iDr, sDrPut, rDrNext, vDct, sNever, L2.atI, dIx, dList, dTuple, dEq, dNe, D.okd, okdL, D.eqb, PyData.eqv, D.py, pyL, dSum, dSumA, dSorted, dAll, dAny, dNotB, dIsB, dIsN, dNotN, D.isNon, sDrPull, sRaise0, vDct1, dCaught, dfL, dNeS, sRaise1, dXf, dEqO, dmS, jCons, jFlds, iCons, iNil, putD, sParsN, sParsB, rsN, putK, lfRs, lfR, dCallV, sCaughtApp, dNeO, sFz, rLRg1, rLRg2, dLRg, gTupL_l, vDctI, rComp2]
    refine ⟨dp y, gy, ?_⟩
    simp [dp, dfS, startD, sCons, sNil, sSetN, sSetB, sOwnN, sOwnB, sIf, sRetB, sRetNone, sRetO, sFor, sAsgN, sAsgB, sAsgF, gTupL_l, sParN, sParB, slotR, lfR, sExpr, sAppN, sAppB, augI, gTup_t, gCons_c, gCons_n, gNil_n, gNil_c, gN, dVar, dC, vR, rV, rBin, cBin, bV, bTru, bNot, bAnd, bOr, vAnd, vOr, vNot, rIf, vIf, dNeg, dTup, dLst, dTupS, dLstS, aNil, aCons, aStar, rCall, dCall, dCallK, pick, on1, on2, dLen, i1, i2, dInt, dIsi, dTru, dFld, rCut, rRev, dRevS, oNone, oSome, dCut, iOf, iArg, zip2_e, enu1_e, rng1, rng2, rComp, bYes, cChain, cChain3, dInB, inD, D.fl, toV, L2.eqV, dAdd, dSub, dMul, dMulA, dFd, dMd, dPw, iI, iC, frz, viewN, viewB, wipeV, toSl, D.items, vDr, iDr, sDrPut, rDrNext, vDct, sNever, L2.atI, dIx, dList, dTuple, dEq, dNe, D.okd, okdL, D.eqb, PyData.eqv, D.py, pyL, dSum, dSumA, dSorted, dAll, dAny, dNotB, dIsB, dIsN, dNotN, D.isNon, sDrPull, sRaise0, vDct1, dCaught, dfL, dNeS, sRaise1, dXf, dEqO, dmS, jCons, jFlds, iCons, iNil, putD, sParsN, sParsB, rsN, putK, lfRs, lfR, dCallV, sCaughtApp, dNeO, sFz, rLRg1, rLRg2, dLRg, gTupL_l, vDctI, rComp2]
    have e1 : z.2 * y.1 - z.1 * y.2 = -cc z y := by unfold cc; omega
    have z1w : z.1.natAbs < 2 ^ 2000 := Nat.lt_trans hz1 (by decide)
    have z2w : z.2.natAbs < 2 ^ 2000 := Nat.lt_trans hz2 (by decide)
    have wd : ∀ i : Int, 0 ≤ i → i ≤ p.2 → i.natAbs < 2 ^ 2000 := fun i h0 h1 => Nat.lt_trans (by omega : i.natAbs < 2 ^ 200) (by decide)
    rw [fdiv_pos _ a0, fdiv_pos _ a0]
    refine ⟨mulokW _ _ z2w (wd _ yb.1 yb.2.2.1), mulokW _ _ z1w (wd _ yb.2.1 yb.2.2.2.1), ⟨by omega, lg (by omega)⟩, mulokW _ _ z1w (wd _ xb.2.1 xb.2.2.2.1), mulokW _ _ z2w (wd _ xb.1 xb.2.2.1), ⟨by omega, lg (by omega)⟩, ?_⟩
    by_cases q : 0 ≤ cc z y
    · have m0 : (z.2 * y.1 - z.1 * y.2) / p.2 ≤ 0 := Int.ediv_le_of_le_mul a0 (by omega)
      exact ⟨fun c => absurd c (by omega), fun _ => hκ _ ⟨s + 1, y, _, _, _, _, _, _, _, ez, by omega, hy, q, rfl⟩⟩
    · have r := rs_of pk lp hx hy c0 (by omega)
      have m0 := r.m0
      have n0 := r.n0
      exact ⟨fun _ => ⟨fun _ => hk s _ _ (.inl ⟨x', y, r⟩), fun c => absurd c (by omega)⟩, fun c => absurd c (by omega)⟩
  · rintro ρ ⟨s, x, b6, b7, b8, b9, b10, b11, b12, e, hs, hx, c0, rfl⟩
    simp [dfS, startD, sCons, sNil, sSetN, sSetB, sOwnN, sOwnB, sIf, sRetB, sRetNone, sRetO, sFor, sAsgN, sAsgB, sAsgF, gTupL_l, sParN, sParB, slotR, lfR, sExpr, sAppN, sAppB, augI, gTup_t, gCons_c, gCons_n, gNil_n, gNil_c, gN, dVar, dC, vR, rV, rBin, cBin, bV, bTru, bNot, bAnd, bOr, vAnd, vOr, vNot, rIf, vIf, dNeg, dTup, dLst, dTupS, dLstS, aNil, aCons, aStar, rCall, dCall, dCallK, pick, on1, on2, dLen, i1, i2, dInt, dIsi, dTru, dFld, rCut, rRev, dRevS, oNone, oSome, dCut, iOf, iArg, zip2_e, enu1_e, rng1, rng2, rComp, bYes, cChain, cChain3, dInB, inD, D.fl, toV, L2.eqV, dAdd, dSub, dMul, dMulA, dFd, dMd, dPw, iI, iC, frz, viewN, viewB, wipeV, toSl, D.items, vDr, iDr, sDrPut, rDrNext, vDct, sNever, L2.atI, dIx, dList, dTuple, dEq, dNe, D.okd, okdL, D.eqb, PyData.eqv, D.py, pyL, dSum, dSumA, dSorted, dAll, dAny, dNotB, dIsB, dIsN, dNotN, D.isNon, sDrPull, sRaise0, vDct1, dCaught, dfL, dNeS, sRaise1, dXf, dEqO, dmS, jCons, jFlds, iCons, iNil, putD, sParsN, sParsB, rsN, putK, lfRs, lfR, dCallV, sCaughtApp, dNeO, sFz, rLRg1, rLRg2, dLRg, gTupL_l, vDctI, rComp2]
    have hl2 := Pk.len (w := p.1) (a := p.2) (l := L)
    have le := congrArg List.length e
    rw [List.length_drop, List.length_zipIdx, List.length_dropLast, hl2] at le
    simp only [List.length_nil] at le
    have es : s = L.length + 1 := by omega
    subst es
    rw [pk.last] at hx
    cases hx
    have r := (rs_end pk lp c0).2
    rw [fdiv_pos _ a0, hl2]
    refine ⟨⟨by omega, lg (by omega)⟩, ?_⟩
    have := hk _ _ _ r
    rw [show ((L.length + 2 : Nat) : Int) - 1 = ((L.length + 1 : Nat) : Int) by omega]
    exact this
  · unfold cc
    have := Int.mul_nonneg lp.i (show 0 ≤ p.2 by omega)
    simpa using this
end K12

set_option Elab.async false
set_option linter.all false
set_option maxRecDepth 100000
set_option maxHeartbeats 4000000
namespace K12
open PySem Dv
theorem eqv_ii (i j : Int) : PyData.eqv (.int i) (.int j) = (i == j) := by unfold PyData.eqv; rfl
theorem eqv_tt (xs ys : List PyData) : PyData.eqv (.tuple xs) (.tuple ys) = PyData.eqvAll xs ys := by conv => lhs; unfold PyData.eqv
theorem eqv_ll (xs ys : List PyData) : PyData.eqv (.list xs) (.list ys) = PyData.eqvAll xs ys := by conv => lhs; unfold PyData.eqv
theorem eqvA_n : PyData.eqvAll [] [] = true := by unfold PyData.eqvAll; rfl
theorem eqvA_c (x y : PyData) (xs ys : List PyData) : PyData.eqvAll (x :: xs) (y :: ys) = (PyData.eqv x y && PyData.eqvAll xs ys) := by conv => lhs; unfold PyData.eqvAll
theorem eqv_ss (a b : Str) : PyData.eqv (.str a) (.str b) = (a == b) := by unfold PyData.eqv; rfl
theorem ones_ok {α : Type} : ∀ l : List α, okdL 59 (l.map fun _ => D.int 1) = true
  | [] => by simp [okdL]
  | x :: l => by simp only [List.map_cons, okdL, D.okd, Bool.and_eq_true]; exact ⟨trivial, ones_ok l⟩
theorem fr_pow {B : Nat} : ∀ {l : List Int}, G2 l → (∀ n ∈ l, n ≤ B) → (fr l).2.natAbs ≤ B ^ l.length
  | [], _, _ => by show (1 : Int).natAbs ≤ B ^ 0; simp
  | n :: l, h, hB => by
    have h' : G2 l := fun x hx => h x (List.mem_cons_of_mem _ hx)
    have ih := fr_pow (l := l) h' fun x hx => hB x (List.mem_cons_of_mem _ hx)
    obtain ⟨b1, b2, _⟩ := fr_b h'
    have hn := h n List.mem_cons_self
    have hn2 := hB n List.mem_cons_self
    have h4 : 2 * (fr l).2 ≤ n * (fr l).2 := Int.mul_le_mul_of_nonneg_right hn (by omega)
    have h5 : (n * (fr l).2).natAbs ≤ B ^ (n :: l).length := by
      rw [Int.natAbs_mul, List.length_cons, Nat.pow_succ, Nat.mul_comm]
      exact Nat.mul_le_mul ih (by omega)
    show (n * (fr l).2 - (fr l).1).natAbs ≤ _
    omega
theorem sp_some_pair (k : Rv → Prop) (E : Exn → Prop) (h : ∀ p : Q2, 0 ≤ p.1 → p.1 < p.2 → p.2.natAbs < 2 ^ 200 → Nat.gcd p.1.natAbs p.2.natAbs = 1 → k (.val (dp p))) : F__law_some_pair [.drw] k E := by
  have hz := szl
  have c30 : L2.CPow 10 30 := ⟨by decide, by decide, by decide⟩
  simp [F__law_some_pair, dfS, startD, sCons, sNil, sSetN, sSetB, sOwnN, sOwnB, sIf, sRetB, sRetNone, sRetO, sFor, sAsgN, sAsgB, sAsgF, gTupL_l, sParN, sParB, slotR, lfR, sExpr, sAppN, sAppB, augI, gTup_t, gCons_c, gCons_n, gNil_n, gNil_c, gN, dVar, dC, vR, rV, rBin, cBin, bV, bTru, bNot, bAnd, bOr, vAnd, vOr, vNot, rIf, vIf, dNeg, dTup, dLst, dTupS, dLstS, aNil, aCons, aStar, rCall, dCall, dCallK, pick, on1, on2, dLen, i1, i2, dInt, dIsi, dTru, dFld, rCut, rRev, dRevS, oNone, oSome, dCut, iOf, iArg, zip2_e, enu1_e, rng1, rng2, rComp, bYes, cChain, cChain3, dInB, inD, D.fl, toV, L2.eqV, dAdd, dSub, dMul, dMulA, dFd, dMd, dPw, iI, iC, frz, viewN, viewB, wipeV, toSl, D.items, vDr, iDr, sDrPut, rDrNext, vDct, sNever, L2.atI, dIx, dList, dTuple, dEq, dNe, D.okd, okdL, D.eqb, PyData.eqv, D.py, pyL, dSum, dSumA, dSorted, dAll, dAny, L2.ixN, dNotB, dIsB, dIsN, dNotN, D.isNon, sDrPull, sRaise0, vDct1, dCaught, dfL, dNeS, sRaise1, dXf, dEqO, dmS, jCons, jFlds, iCons, iNil, putD, sParsN, sParsB, rsN, putK, lfRs, lfR, dCallV, sCaughtApp, dNeO, sFz, rLRg1, rLRg2, dLRg, gTupL_l, vDctI, rComp2]
  refine sp_take _ _ _ (by omega) (lg (by omega)) fun way hw0 hw1 => ?_
  simp [dfS, startD, sCons, sNil, sSetN, sSetB, sOwnN, sOwnB, sIf, sRetB, sRetNone, sRetO, sFor, sAsgN, sAsgB, sAsgF, gTupL_l, sParN, sParB, slotR, lfR, sExpr, sAppN, sAppB, augI, gTup_t, gCons_c, gCons_n, gNil_n, gNil_c, gN, dVar, dC, vR, rV, rBin, cBin, bV, bTru, bNot, bAnd, bOr, vAnd, vOr, vNot, rIf, vIf, dNeg, dTup, dLst, dTupS, dLstS, aNil, aCons, aStar, rCall, dCall, dCallK, pick, on1, on2, dLen, i1, i2, dInt, dIsi, dTru, dFld, rCut, rRev, dRevS, oNone, oSome, dCut, iOf, iArg, zip2_e, enu1_e, rng1, rng2, rComp, bYes, cChain, cChain3, dInB, inD, D.fl, toV, L2.eqV, dAdd, dSub, dMul, dMulA, dFd, dMd, dPw, iI, iC, frz, viewN, viewB, wipeV, toSl, D.items, vDr, iDr, sDrPut, rDrNext, vDct, sNever, L2.atI, dIx, dList, dTuple, dEq, dNe, D.okd, okdL, D.eqb, PyData.eqv, D.py, pyL, dSum, dSumA, dSorted, dAll, dAny, L2.ixN, dNotB, dIsB, dIsN, dNotN, D.isNon, sDrPull, sRaise0, vDct1, dCaught, dfL, dNeS, sRaise1, dXf, dEqO, dmS, jCons, jFlds, iCons, iNil, putD, sParsN, sParsB, rsN, putK, lfRs, lfR, dCallV, sCaughtApp, dNeO, sFz, rLRg1, rLRg2, dLRg, gTupL_l, vDctI, rComp2]
  refine ⟨fun _ => ?_, fun _ => ⟨fun _ => ?_, fun _ => ?_⟩⟩
  · refine ⟨c30, ?_⟩
    refine sp_take _ _ _ (by omega) (lg (by omega)) fun x hx0 hx1 => ?_
    refine sp_pick _ _ _ (by simp) (by simp) fun d hd => ?_
    simp only [List.mem_cons, List.mem_nil_iff, or_false] at hd
    rcases hd with rfl | rfl | rfl | rfl | rfl
    · exact h (0, 1) (by decide) (by decide) (by decide) (by decide)
    · exact h (400, 401) (by decide) (by decide) (by decide) (by decide)
    · exact h (1, 400) (by decide) (by decide) (by decide) (by decide)
    · exact h (1, 10 ^ 30) (by decide) (by decide) (by decide) (by simp)
    · refine h (x + 1, 401) (by simp only; omega) (by simp only; omega) (by simp only; omega) ?_
      have pr : ∀ y : Fin 401, y.val ≠ 0 → Nat.gcd y.val 401 = 1 := by decide +kernel
      have := pr ⟨(x + 1).toNat, by omega⟩ (by simp only; omega)
      simp only
      rw [show (x + 1).natAbs = (x + 1).toNat by omega]
      exact this
  · exact sp_pair 60 ⟨by omega, by omega⟩ _ _ fun p hp => h p (by have := hp.a; omega) hp.b (by have := hp.b; have := hp.a; have := hp.c; omega) hp.g
  · refine sp_take _ _ _ (by omega) (lg (by omega)) fun n hn0 hn1 => ?_
    refine ⟨⟨by omega, by omega⟩, ?_⟩
    refine compD_mr (fun i : Nat => D.int (0 + (i : Nat))) D.int (fun _ x => 2 ≤ x ∧ x ≤ ((1001 : Nat) : Int)) (List.range (1 + n - 0).toNat) [] (fun p hp' κ hκ => ?_) (by simp; omega) fun L a1 => ?_
    · simp [dfS, startD, sCons, sNil, sSetN, sSetB, sOwnN, sOwnB, sIf, sRetB, sRetNone, sRetO, sFor, sAsgN, sAsgB, sAsgF, gTupL_l, sParN, sParB, slotR, lfR, sExpr, sAppN, sAppB, augI, gTup_t, gCons_c, gCons_n, gNil_n, gNil_c, gN, dVar, dC, vR, rV, rBin, cBin, bV, bTru, bNot, bAnd, bOr, vAnd, vOr, vNot, rIf, vIf, dNeg, dTup, dLst, dTupS, dLstS, aNil, aCons, aStar, rCall, dCall, dCallK, pick, on1, on2, dLen, i1, i2, dInt, dIsi, dTru, dFld, rCut, rRev, dRevS, oNone, oSome, dCut, iOf, iArg, zip2_e, enu1_e, rng1, rng2, rComp, bYes, cChain, cChain3, dInB, inD, D.fl, toV, L2.eqV, dAdd, dSub, dMul, dMulA, dFd, dMd, dPw, iI, iC, frz, viewN, viewB, wipeV, toSl, D.items, vDr, iDr, sDrPut, rDrNext, vDct, sNever, L2.atI, dIx, dList, dTuple, dEq, dNe, D.okd, okdL, D.eqb, PyData.eqv, D.py, pyL, dSum, dSumA, dSorted, dAll, dAny, L2.ixN, dNotB, dIsB, dIsN, dNotN, D.isNon, sDrPull, sRaise0, vDct1, dCaught, dfL, dNeS, sRaise1, dXf, dEqO, dmS, jCons, jFlds, iCons, iNil, putD, sParsN, sParsB, rsN, putK, lfRs, lfR, dCallV, sCaughtApp, dNeO, sFz, rLRg1, rLRg2, dLRg, gTupL_l, vDctI, rComp2]
      refine sp_pick _ _ _ (by simp) (by simp) fun d hd => ?_
      obtain ⟨b, rfl, hb1, hb2⟩ : ∃ b : Int, d = .int b ∧ 1 ≤ b ∧ b ≤ 1000 := by
        simp only [List.mem_cons, List.mem_nil_iff, or_false] at hd
        rcases hd with rfl | rfl | rfl <;> exact ⟨_, rfl, by decide, by decide⟩
      refine sp_take _ _ _ (by omega) (lg (by omega)) fun x hx0 hx1 => ?_
      exact hκ _ ⟨by omega, by omega⟩
    have hl : L.length = (1 + n - 0).toNat := by rw [a1.length, List.length_range]
    have hq : ∀ x ∈ L, 2 ≤ x ∧ x ≤ ((1001 : Nat) : Int) := A3.all (S := fun x : Int => 2 ≤ x ∧ x ≤ ((1001 : Nat) : Int)) (fun _ _ r => r) a1
    simp only [List.nil_append]
    have g : G2 L := fun x hx => (hq x hx).1
    have z := fr_pow (B := 1001) (l := L) g fun x hx => (hq x hx).2
    have z2 : (1001 : Nat) ^ L.length ≤ 1001 ^ 8 := Nat.pow_le_pow_right (by decide) (by omega)
    have z3 : (1001 : Nat) ^ 8 < 2 ^ 200 := by decide
    have fb := fr_b g
    have z4 : (fr L).2.natAbs < 2 ^ 200 := by omega
    refine sp_law_frac L g (Nat.lt_trans z4 (by decide)) _ (.inl rfl) _ _ ?_
    exact h (fr L) fb.1 fb.2.1 z4 fb.2.2
theorem sp_least (p : Q2) (h : PO p) (ha : p.2 ≤ 60) (L : List Int) (hL : Leg L p.1 p.2) (k : Rv → Prop) (E : Exn → Prop) (hk : k (.new ((pL p.1 p.2 L).map dp))) : F__law_least [.int p.1, .int p.2] k E := by
  have hz := szl
  have pk := h.pk hL
  have h1 := h.1
  have a0 := pk.a0
  simp [F__law_least, dfS, startD, sCons, sNil, sSetN, sSetB, sOwnN, sOwnB, sIf, sRetB, sRetNone, sRetO, sFor, sAsgN, sAsgB, sAsgF, gTupL_l, sParN, sParB, slotR, lfR, sExpr, sAppN, sAppB, augI, gTup_t, gCons_c, gCons_n, gNil_n, gNil_c, gN, dVar, dC, vR, rV, rBin, cBin, bV, bTru, bNot, bAnd, bOr, vAnd, vOr, vNot, rIf, vIf, dNeg, dTup, dLst, dTupS, dLstS, aNil, aCons, aStar, rCall, dCall, dCallK, pick, on1, on2, dLen, i1, i2, dInt, dIsi, dTru, dFld, rCut, rRev, dRevS, oNone, oSome, dCut, iOf, iArg, zip2_e, enu1_e, rng1, rng2, rComp, bYes, cChain, cChain3, dInB, inD, D.fl, toV, L2.eqV, dAdd, dSub, dMul, dMulA, dFd, dMd, dPw, iI, iC, frz, viewN, viewB, wipeV, toSl, D.items, vDr, iDr, sDrPut, rDrNext, vDct, sNever, L2.atI, dIx, dList, dTuple, dEq, dNe, D.okd, okdL, D.eqb, D.py, pyL, dSum, dSumA, dSorted, dAll, dAny, dNotB, dIsB, dIsN, dNotN, D.isNon, sDrPull, sRaise0, vDct1, dCaught, dfL, dNeS, sRaise1, dXf, dmS, jCons, jFlds, iCons, iNil, putD, sParsN, sParsB, rsN, putK, lfRs, lfR, dCallV, sCaughtApp, sFz, rLRg1, rLRg2, dLRg, gTupL_l, vDctI, rComp2, eqv_ii, eqv_tt, eqv_ll, eqvA_c, eqvA_n]
  refine ⟨⟨by omega, by omega⟩, ?_⟩
  refine compD_ml (fun i : Nat => D.int (1 + (i : Nat))) (fun i : Nat => dp (1 + (i : Nat), p.1 * (1 + (i : Nat)) % p.2)) (List.range (p.2 + 1 - 1).toNat) [] (fun i hi κ hκ => ?_) (by simp; omega) ?_
  · have := List.mem_range.mp hi
    simp [dfS, startD, sCons, sNil, sSetN, sSetB, sOwnN, sOwnB, sIf, sRetB, sRetNone, sRetO, sFor, sAsgN, sAsgB, sAsgF, gTupL_l, sParN, sParB, slotR, lfR, sExpr, sAppN, sAppB, augI, gTup_t, gCons_c, gCons_n, gNil_n, gNil_c, gN, dVar, dC, vR, rV, rBin, cBin, bV, bTru, bNot, bAnd, bOr, vAnd, vOr, vNot, rIf, vIf, dNeg, dTup, dLst, dTupS, dLstS, aNil, aCons, aStar, rCall, dCall, dCallK, pick, on1, on2, dLen, i1, i2, dInt, dIsi, dTru, dFld, rCut, rRev, dRevS, oNone, oSome, dCut, iOf, iArg, zip2_e, enu1_e, rng1, rng2, rComp, bYes, cChain, cChain3, dInB, inD, D.fl, toV, L2.eqV, dAdd, dSub, dMul, dMulA, dFd, dMd, dPw, iI, iC, frz, viewN, viewB, wipeV, toSl, D.items, vDr, iDr, sDrPut, rDrNext, vDct, sNever, L2.atI, dIx, dList, dTuple, dEq, dNe, D.okd, okdL, D.eqb, D.py, pyL, dSum, dSumA, dSorted, dAll, dAny, dNotB, dIsB, dIsN, dNotN, D.isNon, sDrPull, sRaise0, vDct1, dCaught, dfL, dNeS, sRaise1, dXf, dmS, jCons, jFlds, iCons, iNil, putD, sParsN, sParsB, rsN, putK, lfRs, lfR, dCallV, sCaughtApp, sFz, rLRg1, rLRg2, dLRg, gTupL_l, vDctI, rComp2, eqv_ii, eqv_tt, eqv_ll, eqvA_c, eqvA_n]
    rw [fmod_pos _ a0]
    refine ⟨mulok _ _ (by omega), by omega, hκ⟩
  have le : (evr p.1 p.2).length = p.2.toNat + 1 := by unfold evr; simp
  have ev : [D.tup [.int 0, .int p.2]] ++ ([] ++ (List.range (p.2 + 1 - 1).toNat).map fun i : Nat => dp (1 + (i : Nat), p.1 * (1 + (i : Nat)) % p.2)) = (evr p.1 p.2).map dp := by
    unfold evr
    rw [show p.2 + 1 - 1 = p.2 by omega, List.map_cons, List.map_map]
    rfl
  have ev2 : D.tup [D.int 0, D.int p.2] :: ([] ++ (List.range (p.2 + 1 - 1).toNat).map fun i : Nat => dp (1 + (i : Nat), p.1 * (1 + (i : Nat)) % p.2)) = (evr p.1 p.2).map dp := ev
  rw [ev2]
  refine ⟨by simp; omega, ?_⟩
  refine compD_fm dp (lstT p.1 p.2) dp (evr p.1 p.2) [] (fun o ho κ κ' κ1 h1 h2 => ?_) (by simp; omega) ?_
  · simp [dfS, startD, sCons, sNil, sSetN, sSetB, sOwnN, sOwnB, sIf, sRetB, sRetNone, sRetO, sFor, sAsgN, sAsgB, sAsgF, gTupL_l, sParN, sParB, slotR, lfR, sExpr, sAppN, sAppB, augI, gTup_t, gCons_c, gCons_n, gNil_n, gNil_c, gN, dVar, dC, vR, rV, rBin, cBin, bV, bTru, bNot, bAnd, bOr, vAnd, vOr, vNot, rIf, vIf, dNeg, dTup, dLst, dTupS, dLstS, aNil, aCons, aStar, rCall, dCall, dCallK, pick, on1, on2, dLen, i1, i2, dInt, dIsi, dTru, dFld, rCut, rRev, dRevS, oNone, oSome, dCut, iOf, iArg, zip2_e, enu1_e, rng1, rng2, rComp, bYes, cChain, cChain3, dInB, inD, D.fl, toV, L2.eqV, dAdd, dSub, dMul, dMulA, dFd, dMd, dPw, iI, iC, frz, viewN, viewB, wipeV, toSl, D.items, vDr, iDr, sDrPut, rDrNext, vDct, sNever, L2.atI, dIx, dList, dTuple, dEq, dNe, D.okd, okdL, D.eqb, D.py, pyL, dSum, dSumA, dSorted, dAll, dAny, dNotB, dIsB, dIsN, dNotN, D.isNon, sDrPull, sRaise0, vDct1, dCaught, dfL, dNeS, sRaise1, dXf, dmS, jCons, jFlds, iCons, iNil, putD, sParsN, sParsB, rsN, putK, lfRs, lfR, dCallV, sCaughtApp, sFz, rLRg1, rLRg2, dLRg, gTupL_l, vDctI, rComp2, eqv_ii, eqv_tt, eqv_ll, eqvA_c, eqvA_n]
    refine compD_fm dp (lst1 o) (fun _ => .int 1) (evr p.1 p.2) [] (fun q hq κ κ' κ1 h1 h2 => ?_) (by simp; omega) ?_
    · have no : ¬ (q ≠ o ∧ q.1 ≤ o.1 ∧ q.2 ≤ o.2) → κ' := fun c => h2 (by
        rw [← Bool.not_eq_true]
        unfold lst1
        simp only [Bool.and_eq_true, decide_eq_true_eq]
        exact c)
      simp [dp, dfS, startD, sCons, sNil, sSetN, sSetB, sOwnN, sOwnB, sIf, sRetB, sRetNone, sRetO, sFor, sAsgN, sAsgB, sAsgF, gTupL_l, sParN, sParB, slotR, lfR, sExpr, sAppN, sAppB, augI, gTup_t, gCons_c, gCons_n, gNil_n, gNil_c, gN, dVar, dC, vR, rV, rBin, cBin, bV, bTru, bNot, bAnd, bOr, vAnd, vOr, vNot, rIf, vIf, dNeg, dTup, dLst, dTupS, dLstS, aNil, aCons, aStar, rCall, dCall, dCallK, pick, on1, on2, dLen, i1, i2, dInt, dIsi, dTru, dFld, rCut, rRev, dRevS, oNone, oSome, dCut, iOf, iArg, zip2_e, enu1_e, rng1, rng2, rComp, bYes, cChain, cChain3, dInB, inD, D.fl, toV, L2.eqV, dAdd, dSub, dMul, dMulA, dFd, dMd, dPw, iI, iC, frz, viewN, viewB, wipeV, toSl, D.items, vDr, iDr, sDrPut, rDrNext, vDct, sNever, L2.atI, dIx, dList, dTuple, dEq, dNe, D.okd, okdL, D.eqb, D.py, pyL, dSum, dSumA, dSorted, dAll, dAny, L2.ixN, dNotB, dIsB, dIsN, dNotN, D.isNon, sDrPull, sRaise0, vDct1, dCaught, dfL, dNeS, sRaise1, dXf, dmS, jCons, jFlds, iCons, iNil, putD, sParsN, sParsB, rsN, putK, lfRs, lfR, dCallV, sCaughtApp, sFz, rLRg1, rLRg2, dLRg, gTupL_l, vDctI, rComp2, eqv_ii, eqv_tt, eqv_ll, eqvA_c, eqvA_n]
      refine ⟨fun c => ⟨fun c1 => ⟨fun c2 => h1 ?_, fun c2 => no fun z => by omega⟩, fun c1 => no fun z => by omega⟩, fun c c' => no fun z => z.1 (Prod.ext c c')⟩
      unfold lst1
      simp only [Bool.and_eq_true, decide_eq_true_eq]
      exact ⟨fun e => by subst e; exact c rfl rfl, c1, c2⟩
    · rw [List.nil_append]
      refine ⟨ones_ok _, ?_⟩
      unfold lstT at h1 h2
      revert h1 h2
      generalize (evr p.1 p.2).filter (lst1 o) = F
      intro h1 h2
      cases F with
      | nil => exact ⟨fun _ => h1 rfl, fun z => by simp [pyL, eqvA_n] at z⟩
      | cons x F => exact ⟨fun z => by simp [pyL, PyData.eqvAll] at z, fun _ => h2 rfl⟩
  · rw [List.nil_append, least_law pk]
    exact hk
end K12

set_option Elab.async false
set_option linter.all false
set_option maxRecDepth 100000
set_option maxHeartbeats 4000000
namespace K12
open PySem Dv
def F__law_list_right_2 : DS :=
  (sCons (sOwnB 11 (rCall (aCons (dVar 4) aNil) (on1 dList)))
  (sCons (sRev 4)
  (sCons (sRetB (rV (bV (cBin (vR (dCallK aNil (aCons (dVar 0) aNil) [0] F_leg_points)) (dVar 11) dEq))))
  sNil)))
def F__law_list_right_1 : DS :=
  (sCons (sIf (bAnd (cBin (dVar 3) (dC (.int 60)) dLe) (cBin (vR (rCall (aCons (dVar 4) aNil) (on1 dRepr))) (vR (rCall (aCons (vR (dCall (aCons (dVar 2) (aCons (dVar 3) aNil)) F__law_least)) aNil) (on1 dRepr))) dNeS)) (sCons (sRetB (rV (dC (.bl false))))
  sNil) sNil)
  F__law_list_right_2)
def F__law_list_right_0 : DS :=
  (sCons (sFor (iArg (aCons (dVar 1) aNil) enu1) (gTup 2 (gCons (gN 5) (gCons (gN 6) gNil))) (sCons (sAsgB (dTup (aCons (vR (rBin (dVar 4) (dVar 5) dIx)) (aCons (vR (rBin (dVar 4) (vR (rBin (dVar 5) (dC (.int 1)) dAdd)) dIx)) aNil))) (gTup 2 (gCons (gTup 2 (gCons (gN 7) (gCons (gN 8) gNil))) (gCons (gTup 2 (gCons (gN 9) (gCons (gN 10) gNil))) gNil))))
  (sCons (sIf (cBin (vR (rCall (aCons (vR (rBin (dVar 4) (vR (rBin (dVar 5) (dC (.int 2)) dAdd)) dIx)) aNil) (on1 dRepr))) (vR (rCall (aCons (dTup (aCons (vR (rBin (vR (rBin (dVar 6) (dVar 9) dMulA)) (dVar 7) dSub)) (aCons (vR (rBin (vR (rBin (dVar 6) (dVar 10) dMulA)) (dVar 8) dSub)) aNil))) aNil) (on1 dRepr))) dNeS) (sCons (sRetB (rV (dC (.bl false))))
  sNil) sNil)
  sNil)))
  F__law_list_right_1)
theorem F__law_list_right_cut : F__law_list_right = dfS 12
  (sCons (sAsgN (dVar 0) (gTup 2 (gCons (gN 2) (gCons (gN 3) gNil))))
  (sCons (sOwnN 4 (dCall (aCons (dVar 0) aNil) F_leg_points))
  (sCons (sIf (bOr (bNot (bTru (vR (rCall (aCons (dVar 4) (aCons (dC (.typ "list")) aNil)) (on2 (dIsi (kt Cs))))))) (bOr (cBin (vR (rCall (aCons (vR (rCut (dVar 4) oNone (oSome (dC (.int 2))))) aNil) (on1 dRepr))) (vR (rCall (aCons (vR (dLst (aCons (dTup (aCons (dC (.int 0)) (aCons (dVar 3) aNil))) (aCons (dTup (aCons (dC (.int 1)) (aCons (dVar 2) aNil))) aNil)))) aNil) (on1 dRepr))) dNeS) (bOr (cBin (vR (rCall (aCons (dVar 4) aNil) (on1 dLen))) (vR (rBin (vR (rCall (aCons (dVar 1) aNil) (on1 dLen))) (dC (.int 2)) dAdd)) dNe) (cBin (vR (rBin (dVar 4) (dNeg (dC (.int 1))) dIx)) (dTup (aCons (dVar 3) (aCons (dC (.int 0)) aNil))) dNe)))) (sCons (sRetB (rV (dC (.bl false))))
  sNil) sNil)
  F__law_list_right_0))) := rfl

theorem kt_ls (ds : List D) : kt Cs (.lst ds) (.typ "list") = some true := kt_ty _ "list" rfl "list" (by decide)
theorem pl_dp {z : Q2} (h1 : z.1.natAbs < 10 ^ 31) (h2 : z.2.natAbs < 10 ^ 31) : Pl 1 71 (dp z) := by
  refine .tup (N := 32) (fun d hd => ?_) (by simp)
  simp only [List.mem_cons, List.mem_nil_iff, or_false] at hd
  rcases hd with rfl | rfl
  · exact .intd (k := 31) _ (by decide) h1 (by decide) (by decide)
  · exact .intd (k := 31) _ (by decide) h2 (by decide) (by decide)
theorem pl_list {zs : List Q2} (h : ∀ z ∈ zs, z.1.natAbs < 10 ^ 31 ∧ z.2.natAbs < 10 ^ 31) (hl : zs.length ≤ 402) : Pl 2 30000 (.lst (zs.map dp)) := by
  refine .lst (N := 71) (fun d hd => ?_) (by rw [List.length_map]; omega)
  obtain ⟨z, hz, rfl⟩ := List.mem_map.mp hd
  exact pl_dp (h z hz).1 (h z hz).2
theorem small {p : Q2} (h : PO p) {L : List Int} (hL : Leg L p.1 p.2) {z : Q2} (hz : z ∈ pL p.1 p.2 L) : z.1.natAbs < 10 ^ 31 ∧ z.2.natAbs < 10 ^ 31 := by
  obtain ⟨t, ht, e⟩ := List.getElem_of_mem hz
  have hx : (pL p.1 p.2 L)[t]? = some z := by rw [← e]; exact List.getElem?_eq_getElem ht
  have := (h.pk hL).low hx
  have := h.1
  omega
abbrev LR (p : Q2) (L : List Int) (x5 x6 x7 x8 x9 x10 x11 : Option Slot) : Sl := [some (.val (dp p)), some (.val (.lst (L.map .int))), some (.val (.int p.1)), some (.val (.int p.2)), some (.own ((pL p.1 p.2 L).map dp)), x5, x6, x7, x8, x9, x10, x11]
theorem dp_okd (z : Q2) (n : Nat) : D.okd (n + 2) (dp z) = true := by simp [dp, D.okd, okdL]
theorem dps_okd (n : Nat) : ∀ zs : List Q2, okdL (n + 2) (zs.map dp) = true
  | [] => by simp [okdL]
  | z :: zs => by simp only [List.map_cons, okdL, Bool.and_eq_true]; exact ⟨dp_okd z n, dps_okd n zs⟩
theorem lf_dps : ∀ zs : List Q2, D.lf.lfL (zs.map dp) = true
  | [] => rfl
  | z :: zs => by simp only [List.map_cons, D.lf.lfL, Bool.and_eq_true]; exact ⟨rfl, lf_dps zs⟩
theorem lr2 (p : Q2) (h : PO p) (L : List Int) (hL : Leg L p.1 p.2) (hl : L.length ≤ 400) (x5 x6 x7 x8 x9 x10 x11 : Option Slot) (κ : Ks) (E : Exn → Prop) (hk : κ.rt (.val (.bl true))) : F__law_list_right_2 (LR p L x5 x6 x7 x8 x9 x10 x11) κ E := by
  have hz := szl
  have ln : (pL p.1 p.2 L).length = L.length + 2 := Pk.len
  have po : κ.rt (.val (.bl (PyData.eqv (D.lst ((pL p.1 p.2 L).map dp)).py (D.lst ((pL p.1 p.2 L).map dp)).py))) := by
    rw [eqv_refl 60 _ (by simp only [D.okd]; exact dps_okd 57 _)]
    exact hk
  simp [F__law_list_right_2, LR, sRev, dfS, startD, sCons, sNil, sSetN, sSetB, sOwnN, sOwnB, sIf, sRetB, sRetNone, sRetO, sFor, sAsgN, sAsgB, sAsgF, gTupL_l, sParN, sParB, slotR, lfR, sExpr, sAppN, sAppB, augI, gTup_t, gCons_c, gCons_n, gNil_n, gNil_c, gN, dVar, dC, vR, rV, rBin, cBin, bV, bTru, bNot, bAnd, bOr, vAnd, vOr, vNot, rIf, vIf, dNeg, dTup, dLst, dTupS, dLstS, aNil, aCons, aStar, rCall, dCall, dCallK, pick, on1, on2, dLen, i1, i2, dInt, dIsi, dTru, dFld, rCut, rRev, dRevS, oNone, oSome, dCut, iOf, iArg, zip2_e, enu1_e, rng1, rng2, rComp, bYes, cChain, cChain3, dInB, inD, D.fl, toV, L2.eqV, dAdd, dSub, dMul, dMulA, dFd, dMd, dPw, iI, iC, frz, viewN, viewB, wipeV, toSl, D.items, vDr, iDr, sDrPut, rDrNext, vDct, sNever, L2.atI, dIx, dList, dTuple, dEq, dNe, D.okd, okdL, D.eqb, D.py, pyL, dSum, dSumA, dSorted, dAll, dAny, dNotB, dIsB, dIsN, dNotN, D.isNon, sDrPull, sRaise0, vDct1, dCaught, dfL, dNeS, sRaise1, dXf, dmS, jCons, jFlds, iCons, iNil, putD, sParsN, sParsB, rsN, putK, lfRs, lfR, dCallV, sCaughtApp, sFz, rLRg1, rLRg2, dLRg, gTupL_l, vDctI, rComp2, eqv_ii, eqv_tt, eqv_ll, eqvA_c, eqvA_n]
  refine ⟨lf_dps _, sp_leg_points p h L hL _ _ (fun _ => ?_) fun q => absurd q (by omega)⟩
  exact ⟨⟨by simp only [D.okd]; exact dps_okd 57 _, dps_okd 57 _⟩, po⟩
theorem lr1 (p : Q2) (h : PO p) (L : List Int) (hL : Leg L p.1 p.2) (hl : L.length ≤ 400) (x5 x6 x7 x8 x9 x10 x11 : Option Slot) (κ : Ks) (E : Exn → Prop) (hk : κ.rt (.val (.bl true))) : F__law_list_right_1 (LR p L x5 x6 x7 x8 x9 x10 x11) κ E := by
  have hz := szl
  have ln : (pL p.1 p.2 L).length = L.length + 2 := Pk.len
  have fin := lr2 p h L hL hl x5 x6 x7 x8 x9 x10 x11 κ E hk
  have pl : Pl 2 30000 (.lst ((pL p.1 p.2 L).map dp)) := pl_list (fun z hz => small h hL hz) (by omega)
  simp [F__law_list_right_1, LR, dfS, startD, sCons, sNil, sSetN, sSetB, sOwnN, sOwnB, sIf, sRetB, sRetNone, sRetO, sFor, sAsgN, sAsgB, sAsgF, gTupL_l, sParN, sParB, slotR, lfR, sExpr, sAppN, sAppB, augI, gTup_t, gCons_c, gCons_n, gNil_n, gNil_c, gN, dVar, dC, vR, rV, rBin, cBin, bV, bTru, bNot, bAnd, bOr, vAnd, vOr, vNot, rIf, vIf, dNeg, dTup, dLst, dTupS, dLstS, aNil, aCons, aStar, rCall, dCall, dCallK, pick, on1, on2, dLen, i1, i2, dInt, dIsi, dTru, dFld, rCut, rRev, dRevS, oNone, oSome, dCut, iOf, iArg, zip2_e, enu1_e, rng1, rng2, rComp, bYes, cChain, cChain3, dInB, inD, D.fl, toV, L2.eqV, dAdd, dSub, dMul, dMulA, dFd, dMd, dPw, iI, iC, frz, viewN, viewB, wipeV, toSl, D.items, vDr, iDr, sDrPut, rDrNext, vDct, sNever, L2.atI, dIx, dList, dTuple, dEq, dNe, D.okd, okdL, D.eqb, D.py, pyL, dSum, dSumA, dSorted, dAll, dAny, dNotB, dIsB, dIsN, dNotN, D.isNon, sDrPull, sRaise0, vDct1, dCaught, dfL, dNeS, sRaise1, dXf, dmS, jCons, jFlds, iCons, iNil, putD, sParsN, sParsB, rsN, putK, lfRs, lfR, dCallV, sCaughtApp, sFz, rLRg1, rLRg2, dLRg, gTupL_l, vDctI, rComp2, eqv_ii, eqv_tt, eqv_ll, eqvA_c, eqvA_n]
  refine ⟨fun c => ?_, fun _ => fin⟩
  refine dRepr_pl pl (by decide) (by decide) _ ?_
  refine sp_least p h c L hL _ _ ?_
  refine dRepr_pl pl (by decide) (by decide) _ ?_
  simp [dNeS]
  exact fin
theorem lr0 (p : Q2) (h : PO p) (L : List Int) (hL : Leg L p.1 p.2) (hl : L.length ≤ 400) (x5 x6 x7 x8 x9 x10 x11 : Option Slot) (κ : Ks) (E : Exn → Prop) (hk : κ.rt (.val (.bl true))) : F__law_list_right_0 (LR p L x5 x6 x7 x8 x9 x10 x11) κ E := by
  have hz := szl
  have ln : (pL p.1 p.2 L).length = L.length + 2 := Pk.len
  have pk := h.pk hL
  have en : enuD (L.map D.int) = L.zipIdx.map fun z => .tup [.int (z.2 : Nat), .int z.1] := by
    unfold enuD
    rw [List.zipIdx_map, List.map_map]
    rfl
  simp [F__law_list_right_0, LR, dfS, startD, sCons, sNil, sSetN, sSetB, sOwnN, sOwnB, sIf, sRetB, sRetNone, sRetO, sFor, sAsgN, sAsgB, sAsgF, gTupL_l, sParN, sParB, slotR, lfR, sExpr, sAppN, sAppB, augI, gTup_t, gCons_c, gCons_n, gNil_n, gNil_c, gN, dVar, dC, vR, rV, rBin, cBin, bV, bTru, bNot, bAnd, bOr, vAnd, vOr, vNot, rIf, vIf, dNeg, dTup, dLst, dTupS, dLstS, aNil, aCons, aStar, rCall, dCall, dCallK, pick, on1, on2, dLen, i1, i2, dInt, dIsi, dTru, dFld, rCut, rRev, dRevS, oNone, oSome, dCut, iOf, iArg, zip2_e, enu1_e, rng1, rng2, rComp, bYes, cChain, cChain3, dInB, inD, D.fl, toV, L2.eqV, dAdd, dSub, dMul, dMulA, dFd, dMd, dPw, iI, iC, frz, viewN, viewB, wipeV, toSl, D.items, vDr, iDr, sDrPut, rDrNext, vDct, sNever, L2.atI, dIx, dList, dTuple, dEq, dNe, D.okd, okdL, D.eqb, D.py, pyL, dSum, dSumA, dSorted, dAll, dAny, dNotB, dIsB, dIsN, dNotN, D.isNon, sDrPull, sRaise0, vDct1, dCaught, dfL, dNeS, sRaise1, dXf, dmS, jCons, jFlds, iCons, iNil, putD, sParsN, sParsB, rsN, putK, lfRs, lfR, dCallV, sCaughtApp, sFz, rLRg1, rLRg2, dLRg, gTupL_l, vDctI, rComp2, eqv_ii, eqv_tt, eqv_ll, eqvA_c, eqvA_n]
  rw [en]
  refine forD_ml (fun z : Int × Nat => .tup [.int (z.2 : Nat), .int z.1]) (fun zs ρ => (∀ z ∈ zs, L[z.2]? = some z.1) ∧ ∃ y5 y6 y7 y8 y9 y10 : Option Slot, ρ = LR p L y5 y6 y7 y8 y9 y10 x11) ?_ ?_ _ _ ⟨fun z hz => List.mem_zipIdx_iff_getElem?.mp hz, _, _, _, _, _, _, rfl⟩
  · rintro ⟨n, t⟩ zs ρ ⟨hz1, y5, y6, y7, y8, y9, y10, rfl⟩ κ' hκ
    have hn : L[t]? = some n := hz1 (n, t) List.mem_cons_self
    have tl : t < L.length := (List.getElem?_eq_some_iff.mp hn).1
    obtain ⟨x, hx⟩ := Pk.get (w := p.1) (a := p.2) (l := L) (t := t) (by omega)
    obtain ⟨y, hy⟩ := Pk.get (w := p.1) (a := p.2) (l := L) (t := t + 1) (by omega)
    have st : (pL p.1 p.2 L)[t + 2]? = some (n * y.1 - x.1, n * y.2 - x.2) := pts_step t n x y hn hx hy
    have gx := get_dp hx
    have gy := get_dp hy
    have gs := get_dp st
    rw [show ((t + 1 : Nat) : Int) = (t : Int) + 1 by omega] at gy
    rw [show ((t + 2 : Nat) : Int) = (t : Int) + 2 by omega] at gs
    have sb := small h hL (List.mem_of_getElem? st)
    have pl := pl_dp sb.1 sb.2
    have yb := (h.pk hL).low hy
    have h1 := h.1
    have nb := h.num hL n (List.mem_of_getElem? hn)
    have nw : n.natAbs < 2 ^ 2000 := Nat.lt_trans (by omega : n.natAbs < 2 ^ 200) (by decide)
    have wd : ∀ i : Int, 0 ≤ i → i ≤ p.2 → i.natAbs < 2 ^ 2000 := fun i h0 h1 => Nat.lt_trans (by omega : i.natAbs < 2 ^ 200) (by decide)
    simp [LR, dfS, startD, sCons, sNil, sSetN, sSetB, sOwnN, sOwnB, sIf, sRetB, sRetNone, sRetO, sFor, sAsgN, sAsgB, sAsgF, gTupL_l, sParN, sParB, slotR, lfR, sExpr, sAppN, sAppB, augI, gTup_t, gCons_c, gCons_n, gNil_n, gNil_c, gN, dVar, dC, vR, rV, rBin, cBin, bV, bTru, bNot, bAnd, bOr, vAnd, vOr, vNot, rIf, vIf, dNeg, dTup, dLst, dTupS, dLstS, aNil, aCons, aStar, rCall, dCall, dCallK, pick, on1, on2, dLen, i1, i2, dInt, dIsi, dTru, dFld, rCut, rRev, dRevS, oNone, oSome, dCut, iOf, iArg, zip2_e, enu1_e, rng1, rng2, rComp, bYes, cChain, cChain3, dInB, inD, D.fl, toV, L2.eqV, dAdd, dSub, dMul, dMulA, dFd, dMd, dPw, iI, iC, frz, viewN, viewB, wipeV, toSl, D.items, vDr, iDr, sDrPut, rDrNext, vDct, sNever, L2.atI, dIx, dList, dTuple, dEq, dNe, D.okd, okdL, D.eqb, D.py, pyL, dSum, dSumA, dSorted, dAll, dAny, dNotB, dIsB, dIsN, dNotN, D.isNon, sDrPull, sRaise0, vDct1, dCaught, dfL, dNeS, sRaise1, dXf, dmS, jCons, jFlds, iCons, iNil, putD, sParsN, sParsB, rsN, putK, lfRs, lfR, dCallV, sCaughtApp, sFz, rLRg1, rLRg2, dLRg, gTupL_l, vDctI, rComp2, eqv_ii, eqv_tt, eqv_ll, eqvA_c, eqvA_n]
    refine ⟨_, gx, _, gy, by simp [D.lf, D.lf.lfL, dp], ?_⟩
    simp [dp, dfS, startD, sCons, sNil, sSetN, sSetB, sOwnN, sOwnB, sIf, sRetB, sRetNone, sRetO, sFor, sAsgN, sAsgB, sAsgF, gTupL_l, sParN, sParB, slotR, lfR, sExpr, sAppN, sAppB, augI, gTup_t, gCons_c, gCons_n, gNil_n, gNil_c, gN, dVar, dC, vR, rV, rBin, cBin, bV, bTru, bNot, bAnd, bOr, vAnd, vOr, vNot, rIf, vIf, dNeg, dTup, dLst, dTupS, dLstS, aNil, aCons, aStar, rCall, dCall, dCallK, pick, on1, on2, dLen, i1, i2, dInt, dIsi, dTru, dFld, rCut, rRev, dRevS, oNone, oSome, dCut, iOf, iArg, zip2_e, enu1_e, rng1, rng2, rComp, bYes, cChain, cChain3, dInB, inD, D.fl, toV, L2.eqV, dAdd, dSub, dMul, dMulA, dFd, dMd, dPw, iI, iC, frz, viewN, viewB, wipeV, toSl, D.items, vDr, iDr, sDrPut, rDrNext, vDct, sNever, L2.atI, dIx, dList, dTuple, dEq, dNe, D.okd, okdL, D.eqb, D.py, pyL, dSum, dSumA, dSorted, dAll, dAny, dNotB, dIsB, dIsN, dNotN, D.isNon, sDrPull, sRaise0, vDct1, dCaught, dfL, dNeS, sRaise1, dXf, dmS, jCons, jFlds, iCons, iNil, putD, sParsN, sParsB, rsN, putK, lfRs, lfR, dCallV, sCaughtApp, sFz, rLRg1, rLRg2, dLRg, gTupL_l, vDctI, rComp2, eqv_ii, eqv_tt, eqv_ll, eqvA_c, eqvA_n]
    refine ⟨_, gs, dRepr_pl pl (by decide) (by decide) _ ?_⟩
    refine ⟨mulokW _ _ nw (wd _ yb.1 yb.2.2.1), mulokW _ _ nw (wd _ yb.2.1 yb.2.2.2.1), dRepr_pl pl (by decide) (by decide) _ ?_⟩
    simp [dNeS]
    exact hκ _ ⟨fun z hz => hz1 z (List.mem_cons_of_mem _ hz), _, _, _, _, _, _, rfl⟩
  · rintro ρ ⟨_, y5, y6, y7, y8, y9, y10, rfl⟩
    exact lr1 p h L hL hl _ _ _ _ _ _ _ κ E hk
theorem sp_list_right (p : Q2) (h : PO p) (L : List Int) (hL : Leg L p.1 p.2) (hl : L.length ≤ 400) (k : Rv → Prop) (E : Exn → Prop) (hk : k (.val (.bl true))) : F__law_list_right [dp p, .lst (L.map .int)] k E := by
  have hz := szl
  have ln : (pL p.1 p.2 L).length = L.length + 2 := Pk.len
  have h1 := h.1
  rw [F__law_list_right_cut]
  simp [dp, dfS, startD, sCons, sNil, sSetN, sSetB, sOwnN, sOwnB, sIf, sRetB, sRetNone, sRetO, sFor, sAsgN, sAsgB, sAsgF, gTupL_l, sParN, sParB, slotR, lfR, sExpr, sAppN, sAppB, augI, gTup_t, gCons_c, gCons_n, gNil_n, gNil_c, gN, dVar, dC, vR, rV, rBin, cBin, bV, bTru, bNot, bAnd, bOr, vAnd, vOr, vNot, rIf, vIf, dNeg, dTup, dLst, dTupS, dLstS, aNil, aCons, aStar, rCall, dCall, dCallK, pick, on1, on2, dLen, i1, i2, dInt, dIsi, dTru, dFld, rCut, rRev, dRevS, oNone, oSome, dCut, iOf, iArg, zip2_e, enu1_e, rng1, rng2, rComp, bYes, cChain, cChain3, dInB, inD, D.fl, toV, L2.eqV, dAdd, dSub, dMul, dMulA, dFd, dMd, dPw, iI, iC, frz, viewN, viewB, wipeV, toSl, D.items, vDr, iDr, sDrPut, rDrNext, vDct, sNever, L2.atI, dIx, dList, dTuple, dEq, dNe, D.okd, okdL, D.eqb, D.py, pyL, dSum, dSumA, dSorted, dAll, dAny, dNotB, dIsB, dIsN, dNotN, D.isNon, sDrPull, sRaise0, vDct1, dCaught, dfL, dNeS, sRaise1, dXf, dmS, jCons, jFlds, iCons, iNil, putD, sParsN, sParsB, rsN, putK, lfRs, lfR, dCallV, sCaughtApp, sFz, rLRg1, rLRg2, dLRg, gTupL_l, vDctI, rComp2, eqv_ii, eqv_tt, eqv_ll, eqvA_c, eqvA_n]
  refine sp_leg_points p h L hL _ _ (fun _ => ?_) fun q => absurd q (by omega)
  have t2 : cutD ((pL p.1 p.2 L).map dp) none (some 2) = [dp (0, p.2), dp (1, p.1)] := by
    have e := pts_0 L (0, p.2) (1, p.1)
    have e2 : (pL p.1 p.2 L).take 2 = [(0, p.2), (1, p.1)] := take_two (t := 0) e.1 e.2
    rw [cut_to (by decide) (by rw [List.length_map]; omega), ← List.map_take]
    show ((pL p.1 p.2 L).take 2).map dp = _
    rw [e2]; rfl
  have pl : Pl 2 30000 (.lst [dp (0, p.2), dp (1, p.1)]) := pl_list (zs := [(0, p.2), (1, p.1)]) (fun z hz => by
    simp only [List.mem_cons, List.mem_nil_iff, or_false] at hz
    rcases hz with rfl | rfl
    · exact ⟨by simp, by simp only; omega⟩
    · exact ⟨by simp, by simp only; omega⟩) (by simp)
  simp [kt_ls, dfS, startD, sCons, sNil, sSetN, sSetB, sOwnN, sOwnB, sIf, sRetB, sRetNone, sRetO, sFor, sAsgN, sAsgB, sAsgF, gTupL_l, sParN, sParB, slotR, lfR, sExpr, sAppN, sAppB, augI, gTup_t, gCons_c, gCons_n, gNil_n, gNil_c, gN, dVar, dC, vR, rV, rBin, cBin, bV, bTru, bNot, bAnd, bOr, vAnd, vOr, vNot, rIf, vIf, dNeg, dTup, dLst, dTupS, dLstS, aNil, aCons, aStar, rCall, dCall, dCallK, pick, on1, on2, dLen, i1, i2, dInt, dIsi, dTru, dFld, rCut, rRev, dRevS, oNone, oSome, dCut, iOf, iArg, zip2_e, enu1_e, rng1, rng2, rComp, bYes, cChain, cChain3, dInB, inD, D.fl, toV, L2.eqV, dAdd, dSub, dMul, dMulA, dFd, dMd, dPw, iI, iC, frz, viewN, viewB, wipeV, toSl, D.items, vDr, iDr, sDrPut, rDrNext, vDct, sNever, L2.atI, dIx, dList, dTuple, dEq, dNe, D.okd, okdL, D.eqb, D.py, pyL, dSum, dSumA, dSorted, dAll, dAny, dNotB, dIsB, dIsN, dNotN, D.isNon, sDrPull, sRaise0, vDct1, dCaught, dfL, dNeS, sRaise1, dXf, dmS, jCons, jFlds, iCons, iNil, putD, sParsN, sParsB, rsN, putK, lfRs, lfR, dCallV, sCaughtApp, sFz, rLRg1, rLRg2, dLRg, gTupL_l, vDctI, rComp2, eqv_ii, eqv_tt, eqv_ll, eqvA_c, eqvA_n]
  rw [t2]
  refine dRepr_pl pl (by decide) (by decide) _ ?_
  refine dRepr_pl pl (by decide) (by decide) _ ?_
  simp [dEqS, dNeS, ln, dfS, startD, sCons, sNil, sSetN, sSetB, sOwnN, sOwnB, sIf, sRetB, sRetNone, sRetO, sFor, sAsgN, sAsgB, sAsgF, gTupL_l, sParN, sParB, slotR, lfR, sExpr, sAppN, sAppB, augI, gTup_t, gCons_c, gCons_n, gNil_n, gNil_c, gN, dVar, dC, vR, rV, rBin, cBin, bV, bTru, bNot, bAnd, bOr, vAnd, vOr, vNot, rIf, vIf, dNeg, dTup, dLst, dTupS, dLstS, aNil, aCons, aStar, rCall, dCall, dCallK, pick, on1, on2, dLen, i1, i2, dInt, dIsi, dTru, dFld, rCut, rRev, dRevS, oNone, oSome, dCut, iOf, iArg, zip2_e, enu1_e, rng1, rng2, rComp, bYes, cChain, cChain3, dInB, inD, D.fl, toV, L2.eqV, dAdd, dSub, dMul, dMulA, dFd, dMd, dPw, iI, iC, frz, viewN, viewB, wipeV, toSl, D.items, vDr, iDr, sDrPut, rDrNext, vDct, sNever, L2.atI, dIx, dList, dTuple, dEq, dNe, D.okd, okdL, D.eqb, D.py, pyL, dSum, dSumA, dSorted, dAll, dAny, dNotB, dIsB, dIsN, dNotN, D.isNon, sDrPull, sRaise0, vDct1, dCaught, dfL, dNeS, sRaise1, dXf, dmS, jCons, jFlds, iCons, iNil, putD, sParsN, sParsB, rsN, putK, lfRs, lfR, dCallV, sCaughtApp, sFz, rLRg1, rLRg2, dLRg, gTupL_l, vDctI, rComp2, eqv_ii, eqv_tt, eqv_ll, eqvA_c, eqvA_n]
  have il : ((L2.ixN (L.length + 2) (-1)).bind fun j => Option.map dp (pL p.1 p.2 L)[j]?) = some (dp (p.2, 0)) := by
    rw [show L.length + 2 = L.length + 1 + 1 by omega, ix_last]
    show ((pL p.1 p.2 L)[L.length + 1]?).map dp = _
    rw [(h.pk hL).last]; rfl
  have fin := lr0 p h L hL hl none none none none none none none ⟨fun _ => k (.val .non), k, fun _ => False, fun _ => False⟩ E hk
  refine ⟨_, il, dp_okd _ 58, ?_⟩
  simp [dp, dfS, startD, sCons, sNil, sSetN, sSetB, sOwnN, sOwnB, sIf, sRetB, sRetNone, sRetO, sFor, sAsgN, sAsgB, sAsgF, gTupL_l, sParN, sParB, slotR, lfR, sExpr, sAppN, sAppB, augI, gTup_t, gCons_c, gCons_n, gNil_n, gNil_c, gN, dVar, dC, vR, rV, rBin, cBin, bV, bTru, bNot, bAnd, bOr, vAnd, vOr, vNot, rIf, vIf, dNeg, dTup, dLst, dTupS, dLstS, aNil, aCons, aStar, rCall, dCall, dCallK, pick, on1, on2, dLen, i1, i2, dInt, dIsi, dTru, dFld, rCut, rRev, dRevS, oNone, oSome, dCut, iOf, iArg, zip2_e, enu1_e, rng1, rng2, rComp, bYes, cChain, cChain3, dInB, inD, D.fl, toV, L2.eqV, dAdd, dSub, dMul, dMulA, dFd, dMd, dPw, iI, iC, frz, viewN, viewB, wipeV, toSl, D.items, vDr, iDr, sDrPut, rDrNext, vDct, sNever, L2.atI, dIx, dList, dTuple, dEq, dNe, D.okd, okdL, D.eqb, D.py, pyL, dSum, dSumA, dSorted, dAll, dAny, L2.ixN, dNotB, dIsB, dIsN, dNotN, D.isNon, sDrPull, sRaise0, vDct1, dCaught, dfL, dNeS, sRaise1, dXf, dmS, jCons, jFlds, iCons, iNil, putD, sParsN, sParsB, rsN, putK, lfRs, lfR, dCallV, sCaughtApp, sFz, rLRg1, rLRg2, dLRg, gTupL_l, vDctI, rComp2, eqv_ii, eqv_tt, eqv_ll, eqvA_c, eqvA_n]
  exact fin
end K12

set_option Elab.async false
set_option linter.all false
set_option maxRecDepth 100000
set_option maxHeartbeats 4000000
namespace K12
open PySem Dv
def F_sb2 : DS :=
  (sCons (sSetN 13 (vR (dCall (aCons (dVar 0) (aCons (vR (dCall (aCons (dVar 0) (aCons (vR (dLst (aCons (dC (.int 1)) (aCons (dC (.int 3)) (aCons (vR (rBin (dVar 4) (dC (.int 1)) dAdd)) (aCons (vR (rBin (dC (.int 10)) (dC (.int 30)) dPw)) aNil)))))) aNil)) F__law_pick)) aNil)) F__law_take)))
  (sCons (sSetN 14 (dTup (aCons (dVar 13) (aCons (vR (rBin (vR (rBin (vR (rCall (aCons (vR (rBin (dVar 3) (dVar 13) dMulA)) aNil) (on1 dInt))) (vR (rCall (aCons (dVar 4) aNil) (on1 dInt))) dMd)) (vR (rBin (dVar 4) (vR (dCall (aCons (dVar 0) (aCons (vR (dLst (aCons (dC (.int 0)) (aCons (dC (.int 0)) (aCons (dC (.int 1)) (aCons (vR (dCall (aCons (dVar 0) (aCons (vR (rBin (dC (.int 10)) (dC (.int 6)) dPw)) aNil)) F__law_take)) aNil)))))) aNil)) F__law_pick)) dMulA)) dAdd)) aNil))))
  (sCons (sIf (cBin (dVar 14) (dTup (aCons (dC (.int 0)) (aCons (dC (.int 0)) aNil))) dNe) (sCons (sSetN 15 (vR (dCall (aCons (dVar 1) (aCons (dVar 14) aNil)) F_point_sum)))
  (sCons (sIf (bOr (bNot (bTru (vR (rCall (aCons (dVar 15) (aCons (dC (.typ "tuple")) aNil)) (on2 (dIsi (kt Cs))))))) (bOr (cBin (vR (rCall (aCons (dVar 15) aNil) (on1 dLen))) (dC (.int 3)) dNe) (cBin (vR (rComp (iOf (dVar 15)) (gN 17) (bNot (bTru (vR (dCall (aCons (dVar 17) aNil) F__law_is_number)))) (dC (.int 1)) [16, 17])) (vR (dLst aNil)) dNe))) (sCons (sRetB (rV (dC (.bl false))))
  sNil) sNil)
  (sCons (sAsgN (dVar 15) (gTup 3 (gCons (gN 7) (gCons (gN 9) (gCons (gN 10) gNil)))))
  (sCons (sIf (bOr (bNot (cChain (dC (.int 0)) (dVar 7) (vR (rCall (aCons (dVar 5) aNil) (on1 dLen))) dLe dLt)) (bOr (cBin (dVar 9) (dC (.int 1)) dLt) (bOr (cBin (dVar 10) (dC (.int 0)) dLt) (bAnd (cBin (dVar 7) (vR (rBin (vR (rCall (aCons (dVar 5) aNil) (on1 dLen))) (dC (.int 1)) dSub)) dEq) (cBin (dVar 10) (dC (.int 0)) dNe))))) (sCons (sRetB (rV (dC (.bl false))))
  sNil) sNil)
  (sCons (sSetN 11 (vR (rIf (cBin (dVar 7) (vR (rBin (vR (rCall (aCons (dVar 5) aNil) (on1 dLen))) (dC (.int 1)) dSub)) dLt) (rBin (dVar 5) (vR (rBin (dVar 7) (dC (.int 1)) dAdd)) dIx) (rV (dTup (aCons (dC (.int 0)) (aCons (dC (.int 0)) aNil)))))))
  (sCons (sIf (cBin (dVar 14) (dTup (aCons (vR (rBin (vR (rBin (dVar 9) (vR (rBin (vR (rBin (dVar 5) (dVar 7) dIx)) (dC (.int 0)) dIx)) dMulA)) (vR (rBin (dVar 10) (vR (rBin (dVar 11) (dC (.int 0)) dIx)) dMulA)) dAdd)) (aCons (vR (rBin (vR (rBin (dVar 9) (vR (rBin (vR (rBin (dVar 5) (dVar 7) dIx)) (dC (.int 1)) dIx)) dMulA)) (vR (rBin (dVar 10) (vR (rBin (dVar 11) (dC (.int 1)) dIx)) dMulA)) dAdd)) aNil))) dNe) (sCons (sRetB (rV (dC (.bl false))))
  sNil) sNil)
  sNil)))))) sNil)
  sNil)))
def F_sb1 : DS :=
  (sCons (sSetN 12 (dTup (aCons (vR (rBin (vR (rBin (dVar 9) (vR (rBin (vR (rBin (dVar 5) (dVar 7) dIx)) (dC (.int 0)) dIx)) dMulA)) (vR (rBin (dVar 10) (vR (rBin (dVar 11) (dC (.int 0)) dIx)) dMulA)) dAdd)) (aCons (vR (rBin (vR (rBin (dVar 9) (vR (rBin (vR (rBin (dVar 5) (dVar 7) dIx)) (dC (.int 1)) dIx)) dMulA)) (vR (rBin (dVar 10) (vR (rBin (dVar 11) (dC (.int 1)) dIx)) dMulA)) dAdd)) aNil))))
  (sCons (sIf (bOr (cBin (vR (rCall (aCons (vR (dLst (aCons (vR (dCall (aCons (dVar 1) (aCons (dVar 12) aNil)) F_point_sum)) (aCons (vR (dCallK aNil (aCons (dVar 12) (aCons (dVar 1) aNil)) [1, 0] F_point_sum)) aNil)))) aNil) (on1 dRepr))) (vR (rCall (aCons (vR (rBin (vR (dLst (aCons (dTup (aCons (dVar 7) (aCons (dVar 9) (aCons (dVar 10) aNil)))) aNil))) (dC (.int 2)) dMulA)) aNil) (on1 dRepr))) dNeS) (bNot (bTru (vR (dCall (aCons (vR (dCall (aCons (dVar 1) (aCons (dVar 12) aNil)) F_is_point)) (aCons (dC (.bl true)) aNil)) F__law_says))))) (sCons (sRetB (rV (dC (.bl false))))
  sNil) sNil)
  F_sb2))
def F_sb0 : DS :=
  (sCons (sSetN 7 (vR (dCall (aCons (dVar 0) (aCons (vR (rCall (aCons (dVar 5) aNil) (on1 dLen))) aNil)) F__law_take)))
  (sCons (sSetN 8 (vR (dCall (aCons (dVar 0) (aCons (vR (dLst (aCons (dC (.int 1)) (aCons (dC (.int 2)) (aCons (dC (.int 5)) (aCons (vR (rBin (dC (.int 10)) (dC (.int 30)) dPw)) aNil)))))) aNil)) F__law_pick)))
  (sCons (sParN 9 10 false false (rBin (dC (.int 1)) (vR (dCall (aCons (dVar 0) (aCons (dVar 8) aNil)) F__law_take)) dAdd) (rIf (cBin (dVar 7) (vR (rBin (vR (rCall (aCons (dVar 5) aNil) (on1 dLen))) (dC (.int 1)) dSub)) dEq) (rV (dC (.int 0))) (dCall (aCons (dVar 0) (aCons (vR (rBin (dVar 8) (dC (.int 1)) dAdd)) aNil)) F__law_take)))
  (sCons (sSetN 11 (vR (rIf (cBin (dVar 7) (vR (rBin (vR (rCall (aCons (dVar 5) aNil) (on1 dLen))) (dC (.int 1)) dSub)) dLt) (rBin (dVar 5) (vR (rBin (dVar 7) (dC (.int 1)) dAdd)) dIx) (rV (dTup (aCons (dC (.int 0)) (aCons (dC (.int 0)) aNil)))))))
  F_sb1))))
theorem F__law_sums_right_cut : F__law_sums_right = dfS 18
  (sCons (sAsgN (dVar 1) (gTup 2 (gCons (gN 3) (gCons (gN 4) gNil))))
  (sCons (sSetN 5 (vR (dCall (aCons (dVar 1) aNil) F_leg_points)))
  (sCons (sFor (iArg (aCons (dC (.int 4)) aNil) rng1) (gN 6) F_sb0)
  (sCons (sRetB (rV (dC (.bl true))))
  sNil)))) := rfl

theorem sp_says (b c : Bool) (k : Rv → Prop) (E : Exn → Prop) (hk : k (.val (.bl (b == c)))) : F__law_says [.bl b, .bl c] k E := by
  cases b <;> cases c <;> (simp [F__law_says, dfS, startD, sCons, sNil, sSetN, sSetB, sOwnN, sOwnB, sIf, sRetB, sRetNone, sRetO, sFor, sAsgN, sAsgB, sAsgF, gTupL_l, sParN, sParB, slotR, lfR, sExpr, sAppN, sAppB, augI, gTup_t, gCons_c, gCons_n, gNil_n, gNil_c, gN, dVar, dC, vR, rV, rBin, cBin, bV, bTru, bNot, bAnd, bOr, vAnd, vOr, vNot, rIf, vIf, dNeg, dTup, dLst, dTupS, dLstS, aNil, aCons, aStar, rCall, dCall, dCallK, pick, on1, on2, dLen, i1, i2, dInt, dIsi, dTru, dFld, rCut, rRev, dRevS, oNone, oSome, dCut, iOf, iArg, zip2_e, enu1_e, rng1, rng2, rComp, bYes, cChain, cChain3, dInB, inD, D.fl, toV, L2.eqV, dAdd, dSub, dMul, dMulA, dFd, dMd, dPw, iI, iC, frz, viewN, viewB, wipeV, toSl, D.items, vDr, iDr, sDrPut, rDrNext, vDct, sNever, L2.atI, dIx, dList, dTuple, dEq, dNe, D.okd, okdL, D.eqb, D.py, pyL, dSum, dSumA, dSorted, dAll, dAny, L2.ixN, dNotB, dIsB, dIsN, dNotN, D.isNon, sDrPull, sRaise0, vDct1, dCaught, dfL, dNeS, sRaise1, dXf, dmS, jCons, jFlds, iCons, iNil, putD, sParsN, sParsB, rsN, putK, lfRs, lfR, dCallV, sCaughtApp, sFz, rLRg1, rLRg2, dLRg, gTupL_l, vDctI, rComp2, eqv_ii, eqv_tt, eqv_ll, eqvA_c, eqvA_n]; exact hk)
theorem sp_law_num (i : Int) (k : Rv → Prop) (E : Exn → Prop) (hk : k (.val (.bl true))) : F__law_is_number [.int i] k E := by
  have k1 := kt_ty (.int i) "int" rfl "int" (by decide)
  have k2 := kt_ty (.int i) "int" rfl "bool" (by decide)
  simp [F__law_is_number, k1, k2, isiB, dfS, startD, sCons, sNil, sSetN, sSetB, sOwnN, sOwnB, sIf, sRetB, sRetNone, sRetO, sFor, sAsgN, sAsgB, sAsgF, gTupL_l, sParN, sParB, slotR, lfR, sExpr, sAppN, sAppB, augI, gTup_t, gCons_c, gCons_n, gNil_n, gNil_c, gN, dVar, dC, vR, rV, rBin, cBin, bV, bTru, bNot, bAnd, bOr, vAnd, vOr, vNot, rIf, vIf, dNeg, dTup, dLst, dTupS, dLstS, aNil, aCons, aStar, rCall, dCall, dCallK, pick, on1, on2, dLen, i1, i2, dInt, dIsi, dTru, dFld, rCut, rRev, dRevS, oNone, oSome, dCut, iOf, iArg, zip2_e, enu1_e, rng1, rng2, rComp, bYes, cChain, cChain3, dInB, inD, D.fl, toV, L2.eqV, dAdd, dSub, dMul, dMulA, dFd, dMd, dPw, iI, iC, frz, viewN, viewB, wipeV, toSl, D.items, vDr, iDr, sDrPut, rDrNext, vDct, sNever, L2.atI, dIx, dList, dTuple, dEq, dNe, D.okd, okdL, D.eqb, PyData.eqv, D.py, pyL, dSum, dSumA, dSorted, dAll, dAny, L2.ixN, dNotB, dIsB, dIsN, dNotN, D.isNon, sDrPull, sRaise0, vDct1, dCaught, dfL, dNeS, sRaise1, dXf, dEqO, dmS, jCons, jFlds, iCons, iNil, putD, sParsN, sParsB, rsN, putK, lfRs, lfR, dCallV, sCaughtApp, dNeO, sFz, rLRg1, rLRg2, dLRg, gTupL_l, vDctI, rComp2]
  exact hk
theorem sp_is_point (p : Q2) (h : PO p) (z : Q2) (hz1 : z.1.natAbs < 2 ^ 1000) (k : Rv → Prop) (E : Exn → Prop) (hk : k (.val (.bl (ptB p z)))) : F_is_point [dp p, dp z] k E := by
  simp [F_is_point, dfS, startD, sCons, sNil, sSetN, sSetB, sOwnN, sOwnB, sIf, sRetB, sRetNone, sRetO, sFor, sAsgN, sAsgB, sAsgF, gTupL_l, sParN, sParB, slotR, lfR, sExpr, sAppN, sAppB, augI, gTup_t, gCons_c, gCons_n, gNil_n, gNil_c, gN, dVar, dC, vR, rV, rBin, cBin, bV, bTru, bNot, bAnd, bOr, vAnd, vOr, vNot, rIf, vIf, dNeg, dTup, dLst, dTupS, dLstS, aNil, aCons, aStar, rCall, dCall, dCallK, pick, on1, on2, dLen, i1, i2, dInt, dIsi, dTru, dFld, rCut, rRev, dRevS, oNone, oSome, dCut, iOf, iArg, zip2_e, enu1_e, rng1, rng2, rComp, bYes, cChain, cChain3, dInB, inD, D.fl, toV, L2.eqV, dAdd, dSub, dMul, dMulA, dFd, dMd, dPw, iI, iC, frz, viewN, viewB, wipeV, toSl, D.items, vDr, iDr, sDrPut, rDrNext, vDct, sNever, L2.atI, dIx, dList, dTuple, dEq, dNe, D.okd, okdL, D.eqb, PyData.eqv, D.py, pyL, dSum, dSumA, dSorted, dAll, dAny, L2.ixN, dNotB, dIsB, dIsN, dNotN, D.isNon, sDrPull, sRaise0, vDct1, dCaught, dfL, dNeS, sRaise1, dXf, dEqO, dmS, jCons, jFlds, iCons, iNil, putD, sParsN, sParsB, rsN, putK, lfRs, lfR, dCallV, sCaughtApp, dNeO, sFz, rLRg1, rLRg2, dLRg, gTupL_l, vDctI, rComp2]
  refine sp_need_pair p h _ _ ?_
  exact sp_is_point_of p h z hz1 _ _ hk
abbrev SB (p : Q2) (L : List Int) (x2 x6 x7 x8 x9 x10 x11 x12 x13 x14 x15 : Option Slot) : Sl := [some (.val .drw), some (.val (dp p)), x2, some (.val (.int p.1)), some (.val (.int p.2)), some (.val (.lst ((pL p.1 p.2 L).map dp))), x6, x7, x8, x9, x10, x11, x12, x13, x14, x15, none, none]
theorem ix20 (a b : D) : ((L2.ixN 2 0).bind fun j => [a, b][j]?) = some a := rfl
theorem ix21 (a b : D) : ((L2.ixN 2 1).bind fun j => [a, b][j]?) = some b := rfl
theorem kt_tp (ds : List D) : kt Cs (.tup ds) (.typ "tuple") = some true := kt_ty _ "tuple" rfl "tuple" (by decide)
theorem sb2 (p : Q2) (h : PO p) (L : List Int) (hL : Leg L p.1 p.2) (hl : L.length ≤ 400) (x2 x6 x7 x8 x9 x10 x11 x12 x13 x14 x15 : Option Slot) (κ : Ks) (E : Exn → Prop) (hk : ∀ y6 y7 y8 y9 y10 y11 y12 y13 y14 y15, κ.nx (SB p L x2 y6 y7 y8 y9 y10 y11 y12 y13 y14 y15)) : F_sb2 (SB p L x2 x6 x7 x8 x9 x10 x11 x12 x13 x14 x15) κ E := by
  have hz := szl
  have ln : (pL p.1 p.2 L).length = L.length + 2 := Pk.len
  have h1 := h.1
  have a0 : 0 < p.2 := by omega
  have c30 : L2.CPow 10 30 := ⟨by decide, by decide, by decide⟩
  have c6 : L2.CPow 10 6 := ⟨by decide, by decide, by decide⟩
  simp [F_sb2, SB, dfS, startD, sCons, sNil, sSetN, sSetB, sOwnN, sOwnB, sIf, sRetB, sRetNone, sRetO, sFor, sAsgN, sAsgB, sAsgF, gTupL_l, sParN, sParB, slotR, lfR, sExpr, sAppN, sAppB, augI, gTup_t, gCons_c, gCons_n, gNil_n, gNil_c, gN, dVar, dC, vR, rV, rBin, cBin, bV, bTru, bNot, bAnd, bOr, vAnd, vOr, vNot, rIf, vIf, dNeg, dTup, dLst, dTupS, dLstS, aNil, aCons, aStar, rCall, dCall, dCallK, pick, on1, on2, dLen, i1, i2, dInt, dIsi, dTru, dFld, rCut, rRev, dRevS, oNone, oSome, dCut, iOf, iArg, zip2_e, enu1_e, rng1, rng2, rComp, bYes, cChain, cChain3, dInB, inD, D.fl, toV, L2.eqV, dAdd, dSub, dMul, dMulA, dFd, dMd, dPw, iI, iC, frz, viewN, viewB, wipeV, toSl, D.items, vDr, iDr, sDrPut, rDrNext, vDct, sNever, L2.atI, dIx, dList, dTuple, dEq, dNe, D.okd, okdL, D.eqb, D.py, pyL, dSum, dSumA, dSorted, dAll, dAny, dNotB, dIsB, dIsN, dNotN, D.isNon, sDrPull, sRaise0, vDct1, dCaught, dfL, dNeS, sRaise1, dXf, dmS, jCons, jFlds, iCons, iNil, putD, sParsN, sParsB, rsN, putK, lfRs, lfR, dCallV, sCaughtApp, sFz, rLRg1, rLRg2, dLRg, gTupL_l, vDctI, rComp2, eqv_ii, eqv_tt, eqv_ll, eqvA_c, eqvA_n]
  refine ⟨c30, sp_pick _ _ _ (by simp) (by simp) fun d hd => ?_⟩
  obtain ⟨b, rfl, hb1, hb2⟩ : ∃ b : Int, d = .int b ∧ 1 ≤ b ∧ b ≤ 10 ^ 31 := by
    simp only [List.mem_cons, List.mem_nil_iff, or_false] at hd
    rcases hd with rfl | rfl | rfl | rfl <;> exact ⟨_, rfl, by omega, by omega⟩
  simp [dfS, startD, sCons, sNil, sSetN, sSetB, sOwnN, sOwnB, sIf, sRetB, sRetNone, sRetO, sFor, sAsgN, sAsgB, sAsgF, gTupL_l, sParN, sParB, slotR, lfR, sExpr, sAppN, sAppB, augI, gTup_t, gCons_c, gCons_n, gNil_n, gNil_c, gN, dVar, dC, vR, rV, rBin, cBin, bV, bTru, bNot, bAnd, bOr, vAnd, vOr, vNot, rIf, vIf, dNeg, dTup, dLst, dTupS, dLstS, aNil, aCons, aStar, rCall, dCall, dCallK, pick, on1, on2, dLen, i1, i2, dInt, dIsi, dTru, dFld, rCut, rRev, dRevS, oNone, oSome, dCut, iOf, iArg, zip2_e, enu1_e, rng1, rng2, rComp, bYes, cChain, cChain3, dInB, inD, D.fl, toV, L2.eqV, dAdd, dSub, dMul, dMulA, dFd, dMd, dPw, iI, iC, frz, viewN, viewB, wipeV, toSl, D.items, vDr, iDr, sDrPut, rDrNext, vDct, sNever, L2.atI, dIx, dList, dTuple, dEq, dNe, D.okd, okdL, D.eqb, D.py, pyL, dSum, dSumA, dSorted, dAll, dAny, dNotB, dIsB, dIsN, dNotN, D.isNon, sDrPull, sRaise0, vDct1, dCaught, dfL, dNeS, sRaise1, dXf, dmS, jCons, jFlds, iCons, iNil, putD, sParsN, sParsB, rsN, putK, lfRs, lfR, dCallV, sCaughtApp, sFz, rLRg1, rLRg2, dLRg, gTupL_l, vDctI, rComp2, eqv_ii, eqv_tt, eqv_ll, eqvA_c, eqvA_n]
  refine sp_take _ _ _ (by omega) (lg (by omega)) fun i hi0 hi1 => ?_
  have w2 : ∀ q : Int, q.natAbs < 2 ^ 200 → q.natAbs < 2 ^ 2000 := fun q h => Nat.lt_trans h (by decide)
  have w1 : ∀ q : Int, q.natAbs < 2 ^ 200 → q.natAbs < 2 ^ 1000 := fun q h => Nat.lt_trans h (by decide)
  simp [dfS, startD, sCons, sNil, sSetN, sSetB, sOwnN, sOwnB, sIf, sRetB, sRetNone, sRetO, sFor, sAsgN, sAsgB, sAsgF, gTupL_l, sParN, sParB, slotR, lfR, sExpr, sAppN, sAppB, augI, gTup_t, gCons_c, gCons_n, gNil_n, gNil_c, gN, dVar, dC, vR, rV, rBin, cBin, bV, bTru, bNot, bAnd, bOr, vAnd, vOr, vNot, rIf, vIf, dNeg, dTup, dLst, dTupS, dLstS, aNil, aCons, aStar, rCall, dCall, dCallK, pick, on1, on2, dLen, i1, i2, dInt, dIsi, dTru, dFld, rCut, rRev, dRevS, oNone, oSome, dCut, iOf, iArg, zip2_e, enu1_e, rng1, rng2, rComp, bYes, cChain, cChain3, dInB, inD, D.fl, toV, L2.eqV, dAdd, dSub, dMul, dMulA, dFd, dMd, dPw, iI, iC, frz, viewN, viewB, wipeV, toSl, D.items, vDr, iDr, sDrPut, rDrNext, vDct, sNever, L2.atI, dIx, dList, dTuple, dEq, dNe, D.okd, okdL, D.eqb, D.py, pyL, dSum, dSumA, dSorted, dAll, dAny, dNotB, dIsB, dIsN, dNotN, D.isNon, sDrPull, sRaise0, vDct1, dCaught, dfL, dNeS, sRaise1, dXf, dmS, jCons, jFlds, iCons, iNil, putD, sParsN, sParsB, rsN, putK, lfRs, lfR, dCallV, sCaughtApp, sFz, rLRg1, rLRg2, dLRg, gTupL_l, vDctI, rComp2, eqv_ii, eqv_tt, eqv_ll, eqvA_c, eqvA_n]
  rw [fmod_pos _ a0]
  refine ⟨mulokW _ _ (w2 _ (by omega)) (w2 _ (by omega)), by omega, c6, ?_⟩
  refine sp_take _ _ _ (by omega) (lg (by omega)) fun u hu0 hu1 => ?_
  refine sp_pick _ _ _ (by simp) (by simp) fun d hd => ?_
  obtain ⟨c, rfl, hc1, hc2⟩ : ∃ c : Int, d = .int c ∧ 0 ≤ c ∧ c ≤ 1000000 := by
    simp only [List.mem_cons, List.mem_nil_iff, or_false] at hd
    rcases hd with rfl | rfl | rfl | rfl <;> exact ⟨_, rfl, by omega, by omega⟩
  have r0 := Int.emod_nonneg (p.1 * i) (show p.2 ≠ 0 by omega)
  have r1 := Int.emod_lt_of_pos (p.1 * i) a0
  have r2 : 0 ≤ p.2 * c := Int.mul_nonneg (by omega) hc1
  have r3 : p.2 * c ≤ 10 ^ 30 * 1000000 := Int.mul_le_mul h1.2.2 hc2 hc1 (by omega)
  simp [dfS, startD, sCons, sNil, sSetN, sSetB, sOwnN, sOwnB, sIf, sRetB, sRetNone, sRetO, sFor, sAsgN, sAsgB, sAsgF, gTupL_l, sParN, sParB, slotR, lfR, sExpr, sAppN, sAppB, augI, gTup_t, gCons_c, gCons_n, gNil_n, gNil_c, gN, dVar, dC, vR, rV, rBin, cBin, bV, bTru, bNot, bAnd, bOr, vAnd, vOr, vNot, rIf, vIf, dNeg, dTup, dLst, dTupS, dLstS, aNil, aCons, aStar, rCall, dCall, dCallK, pick, on1, on2, dLen, i1, i2, dInt, dIsi, dTru, dFld, rCut, rRev, dRevS, oNone, oSome, dCut, iOf, iArg, zip2_e, enu1_e, rng1, rng2, rComp, bYes, cChain, cChain3, dInB, inD, D.fl, toV, L2.eqV, dAdd, dSub, dMul, dMulA, dFd, dMd, dPw, iI, iC, frz, viewN, viewB, wipeV, toSl, D.items, vDr, iDr, sDrPut, rDrNext, vDct, sNever, L2.atI, dIx, dList, dTuple, dEq, dNe, D.okd, okdL, D.eqb, D.py, pyL, dSum, dSumA, dSorted, dAll, dAny, dNotB, dIsB, dIsN, dNotN, D.isNon, sDrPull, sRaise0, vDct1, dCaught, dfL, dNeS, sRaise1, dXf, dmS, jCons, jFlds, iCons, iNil, putD, sParsN, sParsB, rsN, putK, lfRs, lfR, dCallV, sCaughtApp, sFz, rLRg1, rLRg2, dLRg, gTupL_l, vDctI, rComp2, eqv_ii, eqv_tt, eqv_ll, eqvA_c, eqvA_n]
  refine ⟨mulok _ _ (by omega), fun nz => ?_, fun z1 z2 => ?_⟩
  · have lp : Lp p.1 p.2 (i, p.1 * i % p.2 + p.2 * c) := by
      refine ⟨hi0, by simp only; omega, ?_, ?_⟩
      · simp only
        by_cases q : i = 0
        · have := nz q
          omega
        · omega
      · simp only
        have e := Int.emod_add_mul_ediv (p.1 * i) p.2
        rw [show p.1 * i % p.2 + p.2 * c - p.1 * i = p.2 * (c - p.1 * i / p.2) by rw [Int.mul_sub]; omega]
        exact Int.dvd_mul_right _ _
    refine sp_point_sum p h L hL hl (i, p.1 * i % p.2 + p.2 * c) (w1 _ (by simp only; omega)) (w1 _ (by simp only; omega)) lp _ _ fun t m n rs => ?_
    simp [kt_tp, dfS, startD, sCons, sNil, sSetN, sSetB, sOwnN, sOwnB, sIf, sRetB, sRetNone, sRetO, sFor, sAsgN, sAsgB, sAsgF, gTupL_l, sParN, sParB, slotR, lfR, sExpr, sAppN, sAppB, augI, gTup_t, gCons_c, gCons_n, gNil_n, gNil_c, gN, dVar, dC, vR, rV, rBin, cBin, bV, bTru, bNot, bAnd, bOr, vAnd, vOr, vNot, rIf, vIf, dNeg, dTup, dLst, dTupS, dLstS, aNil, aCons, aStar, rCall, dCall, dCallK, pick, on1, on2, dLen, i1, i2, dInt, dIsi, dTru, dFld, rCut, rRev, dRevS, oNone, oSome, dCut, iOf, iArg, zip2_e, enu1_e, rng1, rng2, rComp, bYes, cChain, cChain3, dInB, inD, D.fl, toV, L2.eqV, dAdd, dSub, dMul, dMulA, dFd, dMd, dPw, iI, iC, frz, viewN, viewB, wipeV, toSl, D.items, vDr, iDr, sDrPut, rDrNext, vDct, sNever, L2.atI, dIx, dList, dTuple, dEq, dNe, D.okd, okdL, D.eqb, D.py, pyL, dSum, dSumA, dSorted, dAll, dAny, dNotB, dIsB, dIsN, dNotN, D.isNon, sDrPull, sRaise0, vDct1, dCaught, dfL, dNeS, sRaise1, dXf, dmS, jCons, jFlds, iCons, iNil, putD, sParsN, sParsB, rsN, putK, lfRs, lfR, dCallV, sCaughtApp, sFz, rLRg1, rLRg2, dLRg, gTupL_l, vDctI, rComp2, eqv_ii, eqv_tt, eqv_ll, eqvA_c, eqvA_n]
    refine compD_fm D.int (fun _ => false) (fun _ => .int 1) [(t : Int), m, n] [] (fun q hq κ1 κ2 κ3 k1 k2 => ?_) (by simp; omega) ?_
    · simp [dfS, startD, sCons, sNil, sSetN, sSetB, sOwnN, sOwnB, sIf, sRetB, sRetNone, sRetO, sFor, sAsgN, sAsgB, sAsgF, gTupL_l, sParN, sParB, slotR, lfR, sExpr, sAppN, sAppB, augI, gTup_t, gCons_c, gCons_n, gNil_n, gNil_c, gN, dVar, dC, vR, rV, rBin, cBin, bV, bTru, bNot, bAnd, bOr, vAnd, vOr, vNot, rIf, vIf, dNeg, dTup, dLst, dTupS, dLstS, aNil, aCons, aStar, rCall, dCall, dCallK, pick, on1, on2, dLen, i1, i2, dInt, dIsi, dTru, dFld, rCut, rRev, dRevS, oNone, oSome, dCut, iOf, iArg, zip2_e, enu1_e, rng1, rng2, rComp, bYes, cChain, cChain3, dInB, inD, D.fl, toV, L2.eqV, dAdd, dSub, dMul, dMulA, dFd, dMd, dPw, iI, iC, frz, viewN, viewB, wipeV, toSl, D.items, vDr, iDr, sDrPut, rDrNext, vDct, sNever, L2.atI, dIx, dList, dTuple, dEq, dNe, D.okd, okdL, D.eqb, D.py, pyL, dSum, dSumA, dSorted, dAll, dAny, dNotB, dIsB, dIsN, dNotN, D.isNon, sDrPull, sRaise0, vDct1, dCaught, dfL, dNeS, sRaise1, dXf, dmS, jCons, jFlds, iCons, iNil, putD, sParsN, sParsB, rsN, putK, lfRs, lfR, dCallV, sCaughtApp, sFz, rLRg1, rLRg2, dLRg, gTupL_l, vDctI, rComp2, eqv_ii, eqv_tt, eqv_ll, eqvA_c, eqvA_n]
      refine sp_law_num q _ _ ?_
      simp [dfS, startD, sCons, sNil, sSetN, sSetB, sOwnN, sOwnB, sIf, sRetB, sRetNone, sRetO, sFor, sAsgN, sAsgB, sAsgF, gTupL_l, sParN, sParB, slotR, lfR, sExpr, sAppN, sAppB, augI, gTup_t, gCons_c, gCons_n, gNil_n, gNil_c, gN, dVar, dC, vR, rV, rBin, cBin, bV, bTru, bNot, bAnd, bOr, vAnd, vOr, vNot, rIf, vIf, dNeg, dTup, dLst, dTupS, dLstS, aNil, aCons, aStar, rCall, dCall, dCallK, pick, on1, on2, dLen, i1, i2, dInt, dIsi, dTru, dFld, rCut, rRev, dRevS, oNone, oSome, dCut, iOf, iArg, zip2_e, enu1_e, rng1, rng2, rComp, bYes, cChain, cChain3, dInB, inD, D.fl, toV, L2.eqV, dAdd, dSub, dMul, dMulA, dFd, dMd, dPw, iI, iC, frz, viewN, viewB, wipeV, toSl, D.items, vDr, iDr, sDrPut, rDrNext, vDct, sNever, L2.atI, dIx, dList, dTuple, dEq, dNe, D.okd, okdL, D.eqb, D.py, pyL, dSum, dSumA, dSorted, dAll, dAny, dNotB, dIsB, dIsN, dNotN, D.isNon, sDrPull, sRaise0, vDct1, dCaught, dfL, dNeS, sRaise1, dXf, dmS, jCons, jFlds, iCons, iNil, putD, sParsN, sParsB, rsN, putK, lfRs, lfR, dCallV, sCaughtApp, sFz, rLRg1, rLRg2, dLRg, gTupL_l, vDctI, rComp2, eqv_ii, eqv_tt, eqv_ll, eqvA_c, eqvA_n]
      exact k2 rfl
    simp [ln, eqvA_n, dfS, startD, sCons, sNil, sSetN, sSetB, sOwnN, sOwnB, sIf, sRetB, sRetNone, sRetO, sFor, sAsgN, sAsgB, sAsgF, gTupL_l, sParN, sParB, slotR, lfR, sExpr, sAppN, sAppB, augI, gTup_t, gCons_c, gCons_n, gNil_n, gNil_c, gN, dVar, dC, vR, rV, rBin, cBin, bV, bTru, bNot, bAnd, bOr, vAnd, vOr, vNot, rIf, vIf, dNeg, dTup, dLst, dTupS, dLstS, aNil, aCons, aStar, rCall, dCall, dCallK, pick, on1, on2, dLen, i1, i2, dInt, dIsi, dTru, dFld, rCut, rRev, dRevS, oNone, oSome, dCut, iOf, iArg, zip2_e, enu1_e, rng1, rng2, rComp, bYes, cChain, cChain3, dInB, inD, D.fl, toV, L2.eqV, dAdd, dSub, dMul, dMulA, dFd, dMd, dPw, iI, iC, frz, viewN, viewB, wipeV, toSl, D.items, vDr, iDr, sDrPut, rDrNext, vDct, sNever, L2.atI, dIx, dList, dTuple, dEq, dNe, D.okd, okdL, D.eqb, D.py, pyL, dSum, dSumA, dSorted, dAll, dAny, dNotB, dIsB, dIsN, dNotN, D.isNon, sDrPull, sRaise0, vDct1, dCaught, dfL, dNeS, sRaise1, dXf, dmS, jCons, jFlds, iCons, iNil, putD, sParsN, sParsB, rsN, putK, lfRs, lfR, dCallV, sCaughtApp, sFz, rLRg1, rLRg2, dLRg, gTupL_l, vDctI, rComp2, eqv_ii, eqv_tt, eqv_ll, eqvA_c, eqvA_n]
    rcases rs with ⟨x, y, r⟩ | ⟨rfl, m0, rfl, e⟩
    · have hy := r.hy
      have tl := (List.getElem?_eq_some_iff.mp hy).1
      rw [ln] at tl
      have m0 := r.m0
      have n0 := r.n0
      have gx := get_dp r.hx
      have gy := get_dp hy
      rw [ln] at gx gy
      rw [show ((t + 1 : Nat) : Int) = (t : Int) + 1 by omega] at gy
      have xb := (h.pk hL).low r.hx
      have yb := (h.pk hL).low hy
      refine ⟨fun q => absurd q (by omega), fun _ => ⟨fun q => absurd q (by omega), fun _ => ⟨fun q => absurd q (by omega), fun _ => ⟨fun q => absurd q (by omega), fun _ => ⟨fun _ => ?_, fun q => absurd q (by omega)⟩⟩⟩⟩⟩
      refine ⟨_, gy, _, gx, ?_⟩
      obtain ⟨e1, e2⟩ := Prod.mk.inj r.e
      have cc := (h.pk hL).c r.hx hy
      have cx := cc.x1
      have cy := cc.y1
      have g1 : m * 1 ≤ m * x.2 := Int.mul_le_mul_of_nonneg_left (by omega) (by omega)
      have g2 : 0 ≤ n * y.2 := Int.mul_nonneg n0 yb.2.1
      have g3 : n * 1 ≤ n * y.1 := Int.mul_le_mul_of_nonneg_left (by omega) n0
      have g4 : 0 ≤ m * x.1 := Int.mul_nonneg (by omega) xb.1
      simp [dp, ix20, ix21, gx, dfS, startD, sCons, sNil, sSetN, sSetB, sOwnN, sOwnB, sIf, sRetB, sRetNone, sRetO, sFor, sAsgN, sAsgB, sAsgF, gTupL_l, sParN, sParB, slotR, lfR, sExpr, sAppN, sAppB, augI, gTup_t, gCons_c, gCons_n, gNil_n, gNil_c, gN, dVar, dC, vR, rV, rBin, cBin, bV, bTru, bNot, bAnd, bOr, vAnd, vOr, vNot, rIf, vIf, dNeg, dTup, dLst, dTupS, dLstS, aNil, aCons, aStar, rCall, dCall, dCallK, pick, on1, on2, dLen, i1, i2, dInt, dIsi, dTru, dFld, rCut, rRev, dRevS, oNone, oSome, dCut, iOf, iArg, zip2_e, enu1_e, rng1, rng2, rComp, bYes, cChain, cChain3, dInB, inD, D.fl, toV, L2.eqV, dAdd, dSub, dMul, dMulA, dFd, dMd, dPw, iI, iC, frz, viewN, viewB, wipeV, toSl, D.items, vDr, iDr, sDrPut, rDrNext, vDct, sNever, L2.atI, dIx, dList, dTuple, dEq, dNe, D.okd, okdL, D.eqb, D.py, pyL, dSum, dSumA, dSorted, dAll, dAny, dNotB, dIsB, dIsN, dNotN, D.isNon, sDrPull, sRaise0, vDct1, dCaught, dfL, dNeS, sRaise1, dXf, dmS, jCons, jFlds, iCons, iNil, putD, sParsN, sParsB, rsN, putK, lfRs, lfR, dCallV, sCaughtApp, sFz, rLRg1, rLRg2, dLRg, gTupL_l, vDctI, rComp2, eqv_ii, eqv_tt, eqv_ll, eqvA_c, eqvA_n]
      refine ⟨mulokW _ _ (w2 _ (by omega)) (w2 _ (by omega)), mulokW _ _ (w2 _ (by omega)) (w2 _ (by omega)), mulokW _ _ (w2 _ (by omega)) (w2 _ (by omega)), mulokW _ _ (w2 _ (by omega)) (w2 _ (by omega)), fun q => absurd e2 (q e1), fun _ _ => ?_⟩
      exact hk _ _ _ _ _ _ _ _ _ _
    · refine ⟨fun q => absurd q (by omega), fun _ => ⟨fun q => absurd q (by omega), fun _ => ⟨fun q => absurd q (by omega), fun _ => ⟨fun q => ⟨fun q2 => absurd rfl q2, fun _ => ⟨fun q3 => absurd q3 (by omega), fun _ => ?_⟩⟩, fun q => absurd q (by omega)⟩⟩⟩⟩
      have gx := get_dp (h.pk hL).last
      rw [ln] at gx
      obtain ⟨e1, e2⟩ := Prod.mk.inj e
      rw [show ((L.length + 1 : Nat) : Int) = (L.length : Int) + 1 by omega] at gx
      have g1 : m * 1 ≤ m * p.2 := Int.mul_le_mul_of_nonneg_left (by omega) (by omega)
      simp [dp, ix20, ix21, gx, dfS, startD, sCons, sNil, sSetN, sSetB, sOwnN, sOwnB, sIf, sRetB, sRetNone, sRetO, sFor, sAsgN, sAsgB, sAsgF, gTupL_l, sParN, sParB, slotR, lfR, sExpr, sAppN, sAppB, augI, gTup_t, gCons_c, gCons_n, gNil_n, gNil_c, gN, dVar, dC, vR, rV, rBin, cBin, bV, bTru, bNot, bAnd, bOr, vAnd, vOr, vNot, rIf, vIf, dNeg, dTup, dLst, dTupS, dLstS, aNil, aCons, aStar, rCall, dCall, dCallK, pick, on1, on2, dLen, i1, i2, dInt, dIsi, dTru, dFld, rCut, rRev, dRevS, oNone, oSome, dCut, iOf, iArg, zip2_e, enu1_e, rng1, rng2, rComp, bYes, cChain, cChain3, dInB, inD, D.fl, toV, L2.eqV, dAdd, dSub, dMul, dMulA, dFd, dMd, dPw, iI, iC, frz, viewN, viewB, wipeV, toSl, D.items, vDr, iDr, sDrPut, rDrNext, vDct, sNever, L2.atI, dIx, dList, dTuple, dEq, dNe, D.okd, okdL, D.eqb, D.py, pyL, dSum, dSumA, dSorted, dAll, dAny, dNotB, dIsB, dIsN, dNotN, D.isNon, sDrPull, sRaise0, vDct1, dCaught, dfL, dNeS, sRaise1, dXf, dmS, jCons, jFlds, iCons, iNil, putD, sParsN, sParsB, rsN, putK, lfRs, lfR, dCallV, sCaughtApp, sFz, rLRg1, rLRg2, dLRg, gTupL_l, vDctI, rComp2, eqv_ii, eqv_tt, eqv_ll, eqvA_c, eqvA_n]
      refine ⟨mulokW _ _ (w2 _ (by omega)) (w2 _ (by omega)), mulok _ _ (by decide), mulok _ _ (by decide), mulok _ _ (by decide), fun q => absurd e2 (q e1), fun _ _ => ?_⟩
      exact hk _ _ _ _ _ _ _ _ _ _
  · exact hk _ _ _ _ _ _ _ _ _ _
theorem pl_t3 (t : Nat) (m n : Int) (ht : t ≤ 500) (hm : m.natAbs < 10 ^ 31) (hn : n.natAbs < 10 ^ 31) : Pl 1 105 (.tup [.int t, .int m, .int n]) := by
  refine .tup (N := 32) (fun d hd => ?_) (by simp)
  simp only [List.mem_cons, List.mem_nil_iff, or_false] at hd
  rcases hd with rfl | rfl | rfl
  · exact .intd (k := 31) _ (by decide) (by omega) (by decide) (by decide)
  · exact .intd (k := 31) _ (by decide) hm (by decide) (by decide)
  · exact .intd (k := 31) _ (by decide) hn (by decide) (by decide)
theorem sb1 (p : Q2) (h : PO p) (L : List Int) (hL : Leg L p.1 p.2) (hl : L.length ≤ 400) (x2 x6 x8 x12 x13 x14 x15 : Option Slot) (t : Nat) (m n : Int) (x y : Q2) (hx : (pL p.1 p.2 L)[t]? = some x) (hm : 1 ≤ m ∧ m ≤ 10 ^ 30) (hn : 0 ≤ n ∧ n ≤ 10 ^ 30) (hy : (pL p.1 p.2 L)[t + 1]? = some y ∨ (t = L.length + 1 ∧ n = 0 ∧ y = (0, 0))) (κ : Ks) (E : Exn → Prop) (hk : ∀ y6 y7 y8 y9 y10 y11 y12 y13 y14 y15, κ.nx (SB p L x2 y6 y7 y8 y9 y10 y11 y12 y13 y14 y15)) : F_sb1 (SB p L x2 x6 (some (.val (.int t))) x8 (some (.val (.int m))) (some (.val (.int n))) (some (.val (dp y))) x12 x13 x14 x15) κ E := by
  have hz := szl
  have ln : (pL p.1 p.2 L).length = L.length + 2 := Pk.len
  have h1 := h.1
  have a0 : 0 < p.2 := by omega
  have tl := (List.getElem?_eq_some_iff.mp hx).1
  rw [ln] at tl
  have pk := h.pk hL
  have w2 : ∀ q : Int, q.natAbs < 2 ^ 220 → q.natAbs < 2 ^ 2000 := fun q h => Nat.lt_trans h (by decide)
  have w1 : ∀ q : Int, q.natAbs < 2 ^ 220 → q.natAbs < 2 ^ 1000 := fun q h => Nat.lt_trans h (by decide)
  have xb := pk.low hx
  have rs : Rs p.1 p.2 L (m * x.1 + n * y.1, m * x.2 + n * y.2) t m n := by
    rcases hy with hy | ⟨e1, e2, e3⟩
    · exact .inl ⟨x, y, hx, hy, by omega, hn.1, rfl⟩
    · subst e1 e2 e3
      rw [pk.last] at hx
      cases hx
      exact .inr ⟨rfl, by omega, rfl, by simp⟩
  have yb : 0 ≤ y.1 ∧ 0 ≤ y.2 ∧ y.1 ≤ p.2 ∧ y.2 ≤ p.2 := by
    rcases hy with hy | ⟨_, _, e3⟩
    · have := pk.low hy
      omega
    · subst e3
      exact ⟨by simp, by simp, by simp only; omega, by simp only; omega⟩
  have lp := rs_lp pk rs
  have gx := get_dp hx
  rw [ln] at gx
  have b1 : m * x.1 ≤ 10 ^ 30 * 10 ^ 30 := Int.mul_le_mul hm.2 (by omega) xb.1 (by decide)
  have b2 : n * y.1 ≤ 10 ^ 30 * 10 ^ 30 := Int.mul_le_mul hn.2 (by omega) yb.1 (by decide)
  have b3 : m * x.2 ≤ 10 ^ 30 * 10 ^ 30 := Int.mul_le_mul hm.2 (by omega) xb.2.1 (by decide)
  have b4 : n * y.2 ≤ 10 ^ 30 * 10 ^ 30 := Int.mul_le_mul hn.2 (by omega) yb.2.1 (by decide)
  have c1 := lp.i
  have c2 := lp.j
  simp only at c1 c2
  have d1 : (10 : Int) ^ 30 * 10 ^ 30 = 10 ^ 60 := by decide
  rw [d1] at b1 b2 b3 b4
  have go : ∀ (k : Rv → Prop) (E : Exn → Prop), k (.val (.tup [.int t, .int m, .int n])) → F_point_sum [dp p, dp (m * x.1 + n * y.1, m * x.2 + n * y.2)] k E := fun k E hk => by
    refine sp_point_sum p h L hL hl _ (w1 _ (by simp only; omega)) (w1 _ (by simp only; omega)) lp _ _ fun t' m' n' rs' => ?_
    obtain ⟨e1, e2, e3⟩ := rs_uniq pk lp rs rs'
    subst e1 e2 e3
    exact hk
  have fin := sb2 p h L hL hl x2 x6 (some (.val (.int t))) x8 (some (.val (.int m))) (some (.val (.int n))) (some (.val (dp y))) (some (.val (dp (m * x.1 + n * y.1, m * x.2 + n * y.2)))) x13 x14 x15 κ E hk
  have pl : Pl 2 300 (.lst [.tup [.int t, .int m, .int n], .tup [.int t, .int m, .int n]]) := .lst (N := 105) (fun d hd => by
    have e : d = .tup [.int t, .int m, .int n] := by simpa using hd
    rw [e]
    exact pl_t3 t m n (by omega) (by omega) (by omega)) (by simp)
  simp [F_sb1, SB, ln, ix20, ix21, gx, dp, dfS, startD, sCons, sNil, sSetN, sSetB, sOwnN, sOwnB, sIf, sRetB, sRetNone, sRetO, sFor, sAsgN, sAsgB, sAsgF, gTupL_l, sParN, sParB, slotR, lfR, sExpr, sAppN, sAppB, augI, gTup_t, gCons_c, gCons_n, gNil_n, gNil_c, gN, dVar, dC, vR, rV, rBin, cBin, bV, bTru, bNot, bAnd, bOr, vAnd, vOr, vNot, rIf, vIf, dNeg, dTup, dLst, dTupS, dLstS, aNil, aCons, aStar, rCall, dCall, dCallK, pick, on1, on2, dLen, i1, i2, dInt, dIsi, dTru, dFld, rCut, rRev, dRevS, oNone, oSome, dCut, iOf, iArg, zip2_e, enu1_e, rng1, rng2, rComp, bYes, cChain, cChain3, dInB, inD, D.fl, toV, L2.eqV, dAdd, dSub, dMul, dMulA, dFd, dMd, dPw, iI, iC, frz, viewN, viewB, wipeV, toSl, D.items, vDr, iDr, sDrPut, rDrNext, vDct, sNever, L2.atI, dIx, dList, dTuple, dEq, dNe, D.okd, okdL, D.eqb, D.py, pyL, dSum, dSumA, dSorted, dAll, dAny, dNotB, dIsB, dIsN, dNotN, D.isNon, sDrPull, sRaise0, vDct1, dCaught, dfL, dNeS, sRaise1, dXf, dmS, jCons, jFlds, iCons, iNil, putD, sParsN, sParsB, rsN, putK, lfRs, lfR, dCallV, sCaughtApp, sFz, rLRg1, rLRg2, dLRg, gTupL_l, vDctI, rComp2, eqv_ii, eqv_tt, eqv_ll, eqvA_c, eqvA_n]
  refine ⟨mulokW _ _ (w2 _ (by omega)) (w2 _ (by omega)), mulokW _ _ (w2 _ (by omega)) (w2 _ (by omega)), mulokW _ _ (w2 _ (by omega)) (w2 _ (by omega)), mulokW _ _ (w2 _ (by omega)) (w2 _ (by omega)), go _ _ (go _ _ (dRepr_pl pl (by decide) (by decide) _ ⟨by omega, dRepr_pl pl (by decide) (by decide) _ ?_⟩))⟩
  simp [dNeS]
  refine sp_is_point p h (m * x.1 + n * y.1, m * x.2 + n * y.2) (w1 _ (by simp only; omega)) _ _ ?_
  rw [ptB_lp.mpr lp]
  refine sp_says true true _ _ ?_
  exact ⟨fun q => absurd q (by decide), fun _ => fin⟩
theorem sb0 (p : Q2) (h : PO p) (L : List Int) (hL : Leg L p.1 p.2) (hl : L.length ≤ 400) (x2 x6 x7 x8 x9 x10 x11 x12 x13 x14 x15 : Option Slot) (κ : Ks) (E : Exn → Prop) (hk : ∀ y6 y7 y8 y9 y10 y11 y12 y13 y14 y15, κ.nx (SB p L x2 y6 y7 y8 y9 y10 y11 y12 y13 y14 y15)) : F_sb0 (SB p L x2 x6 x7 x8 x9 x10 x11 x12 x13 x14 x15) κ E := by
  have hz := szl
  have ln : (pL p.1 p.2 L).length = L.length + 2 := Pk.len
  have c30 : L2.CPow 10 30 := ⟨by decide, by decide, by decide⟩
  simp [F_sb0, SB, ln, dfS, startD, sCons, sNil, sSetN, sSetB, sOwnN, sOwnB, sIf, sRetB, sRetNone, sRetO, sFor, sAsgN, sAsgB, sAsgF, gTupL_l, sParN, sParB, slotR, lfR, sExpr, sAppN, sAppB, augI, gTup_t, gCons_c, gCons_n, gNil_n, gNil_c, gN, dVar, dC, vR, rV, rBin, cBin, bV, bTru, bNot, bAnd, bOr, vAnd, vOr, vNot, rIf, vIf, dNeg, dTup, dLst, dTupS, dLstS, aNil, aCons, aStar, rCall, dCall, dCallK, pick, on1, on2, dLen, i1, i2, dInt, dIsi, dTru, dFld, rCut, rRev, dRevS, oNone, oSome, dCut, iOf, iArg, zip2_e, enu1_e, rng1, rng2, rComp, bYes, cChain, cChain3, dInB, inD, D.fl, toV, L2.eqV, dAdd, dSub, dMul, dMulA, dFd, dMd, dPw, iI, iC, frz, viewN, viewB, wipeV, toSl, D.items, vDr, iDr, sDrPut, rDrNext, vDct, sNever, L2.atI, dIx, dList, dTuple, dEq, dNe, D.okd, okdL, D.eqb, D.py, pyL, dSum, dSumA, dSorted, dAll, dAny, dNotB, dIsB, dIsN, dNotN, D.isNon, sDrPull, sRaise0, vDct1, dCaught, dfL, dNeS, sRaise1, dXf, dmS, jCons, jFlds, iCons, iNil, putD, sParsN, sParsB, rsN, putK, lfRs, lfR, dCallV, sCaughtApp, sFz, rLRg1, rLRg2, dLRg, gTupL_l, vDctI, rComp2, eqv_ii, eqv_tt, eqv_ll, eqvA_c, eqvA_n]
  refine sp_take _ _ _ (by omega) (lg (by omega)) fun t ht0 ht1 => ?_
  obtain ⟨t, rfl⟩ : ∃ t' : Nat, t = t' := ⟨t.toNat, by omega⟩
  obtain ⟨x, hx⟩ := Pk.get (w := p.1) (a := p.2) (l := L) (t := t) (by omega)
  refine ⟨c30, sp_pick _ _ _ (by simp) (by simp) fun d hd => ?_⟩
  obtain ⟨b, rfl, hb1, hb2⟩ : ∃ b : Int, d = .int b ∧ 1 ≤ b ∧ b ≤ 10 ^ 30 := by
    simp only [List.mem_cons, List.mem_nil_iff, or_false] at hd
    rcases hd with rfl | rfl | rfl | rfl <;> exact ⟨_, rfl, by omega, by omega⟩
  simp [dfS, startD, sCons, sNil, sSetN, sSetB, sOwnN, sOwnB, sIf, sRetB, sRetNone, sRetO, sFor, sAsgN, sAsgB, sAsgF, gTupL_l, sParN, sParB, slotR, lfR, sExpr, sAppN, sAppB, augI, gTup_t, gCons_c, gCons_n, gNil_n, gNil_c, gN, dVar, dC, vR, rV, rBin, cBin, bV, bTru, bNot, bAnd, bOr, vAnd, vOr, vNot, rIf, vIf, dNeg, dTup, dLst, dTupS, dLstS, aNil, aCons, aStar, rCall, dCall, dCallK, pick, on1, on2, dLen, i1, i2, dInt, dIsi, dTru, dFld, rCut, rRev, dRevS, oNone, oSome, dCut, iOf, iArg, zip2_e, enu1_e, rng1, rng2, rComp, bYes, cChain, cChain3, dInB, inD, D.fl, toV, L2.eqV, dAdd, dSub, dMul, dMulA, dFd, dMd, dPw, iI, iC, frz, viewN, viewB, wipeV, toSl, D.items, vDr, iDr, sDrPut, rDrNext, vDct, sNever, L2.atI, dIx, dList, dTuple, dEq, dNe, D.okd, okdL, D.eqb, D.py, pyL, dSum, dSumA, dSorted, dAll, dAny, dNotB, dIsB, dIsN, dNotN, D.isNon, sDrPull, sRaise0, vDct1, dCaught, dfL, dNeS, sRaise1, dXf, dmS, jCons, jFlds, iCons, iNil, putD, sParsN, sParsB, rsN, putK, lfRs, lfR, dCallV, sCaughtApp, sFz, rLRg1, rLRg2, dLRg, gTupL_l, vDctI, rComp2, eqv_ii, eqv_tt, eqv_ll, eqvA_c, eqvA_n]
  refine sp_take _ _ _ (by omega) (lg (by omega)) fun m hm0 hm1 => ?_
  simp [dfS, startD, sCons, sNil, sSetN, sSetB, sOwnN, sOwnB, sIf, sRetB, sRetNone, sRetO, sFor, sAsgN, sAsgB, sAsgF, gTupL_l, sParN, sParB, slotR, lfR, sExpr, sAppN, sAppB, augI, gTup_t, gCons_c, gCons_n, gNil_n, gNil_c, gN, dVar, dC, vR, rV, rBin, cBin, bV, bTru, bNot, bAnd, bOr, vAnd, vOr, vNot, rIf, vIf, dNeg, dTup, dLst, dTupS, dLstS, aNil, aCons, aStar, rCall, dCall, dCallK, pick, on1, on2, dLen, i1, i2, dInt, dIsi, dTru, dFld, rCut, rRev, dRevS, oNone, oSome, dCut, iOf, iArg, zip2_e, enu1_e, rng1, rng2, rComp, bYes, cChain, cChain3, dInB, inD, D.fl, toV, L2.eqV, dAdd, dSub, dMul, dMulA, dFd, dMd, dPw, iI, iC, frz, viewN, viewB, wipeV, toSl, D.items, vDr, iDr, sDrPut, rDrNext, vDct, sNever, L2.atI, dIx, dList, dTuple, dEq, dNe, D.okd, okdL, D.eqb, D.py, pyL, dSum, dSumA, dSorted, dAll, dAny, dNotB, dIsB, dIsN, dNotN, D.isNon, sDrPull, sRaise0, vDct1, dCaught, dfL, dNeS, sRaise1, dXf, dmS, jCons, jFlds, iCons, iNil, putD, sParsN, sParsB, rsN, putK, lfRs, lfR, dCallV, sCaughtApp, sFz, rLRg1, rLRg2, dLRg, gTupL_l, vDctI, rComp2, eqv_ii, eqv_tt, eqv_ll, eqvA_c, eqvA_n]
  refine ⟨fun c => ?_, fun c => ?_⟩
  · exact ⟨fun q => absurd q (by omega), fun _ => sb1 p h L hL hl x2 x6 _ _ _ _ _ t (1 + m) 0 x (0, 0) hx ⟨by omega, by omega⟩ ⟨by omega, by decide⟩ (.inr ⟨by omega, rfl, rfl⟩) κ E hk⟩
  · refine sp_take _ _ _ (by omega) (lg (by omega)) fun n hn0 hn1 => ?_
    obtain ⟨y, hy⟩ := Pk.get (w := p.1) (a := p.2) (l := L) (t := t + 1) (by omega)
    have gy := get_dp hy
    rw [show ((t + 1 : Nat) : Int) = (t : Int) + 1 by omega] at gy
    exact ⟨_, rfl, fun q => ⟨_, gy, sb1 p h L hL hl x2 x6 _ _ _ _ _ t (1 + m) n x y hx ⟨by omega, by omega⟩ ⟨by omega, by omega⟩ (.inl hy) κ E hk⟩, fun q => absurd q (by omega)⟩
theorem sp_sums_right (p : Q2) (h : PO p) (L : List Int) (hL : Leg L p.1 p.2) (hl : L.length ≤ 400) (k : Rv → Prop) (E : Exn → Prop) (hk : k (.val (.bl true))) : F__law_sums_right [.drw, dp p, .lst (L.map .int)] k E := by
  have hz := szl
  rw [F__law_sums_right_cut]
  simp [dp, dfS, startD, sCons, sNil, sSetN, sSetB, sOwnN, sOwnB, sIf, sRetB, sRetNone, sRetO, sFor, sAsgN, sAsgB, sAsgF, gTupL_l, sParN, sParB, slotR, lfR, sExpr, sAppN, sAppB, augI, gTup_t, gCons_c, gCons_n, gNil_n, gNil_c, gN, dVar, dC, vR, rV, rBin, cBin, bV, bTru, bNot, bAnd, bOr, vAnd, vOr, vNot, rIf, vIf, dNeg, dTup, dLst, dTupS, dLstS, aNil, aCons, aStar, rCall, dCall, dCallK, pick, on1, on2, dLen, i1, i2, dInt, dIsi, dTru, dFld, rCut, rRev, dRevS, oNone, oSome, dCut, iOf, iArg, zip2_e, enu1_e, rng1, rng2, rComp, bYes, cChain, cChain3, dInB, inD, D.fl, toV, L2.eqV, dAdd, dSub, dMul, dMulA, dFd, dMd, dPw, iI, iC, frz, viewN, viewB, wipeV, toSl, D.items, vDr, iDr, sDrPut, rDrNext, vDct, sNever, L2.atI, dIx, dList, dTuple, dEq, dNe, D.okd, okdL, D.eqb, D.py, pyL, dSum, dSumA, dSorted, dAll, dAny, dNotB, dIsB, dIsN, dNotN, D.isNon, sDrPull, sRaise0, vDct1, dCaught, dfL, dNeS, sRaise1, dXf, dmS, jCons, jFlds, iCons, iNil, putD, sParsN, sParsB, rsN, putK, lfRs, lfR, dCallV, sCaughtApp, sFz, rLRg1, rLRg2, dLRg, gTupL_l, vDctI, rComp2, eqv_ii, eqv_tt, eqv_ll, eqvA_c, eqvA_n]
  refine sp_leg_points p h L hL _ _ (fun _ => ?_) fun q => absurd q (by omega)
  refine forD_rngD (lo := 0) (hi := 4) (m := 4) (by decide) (fun _ ρ => ∃ y6 y7 y8 y9 y10 y11 y12 y13 y14 y15, ρ = SB p L (some (.val (.lst (L.map .int)))) y6 y7 y8 y9 y10 y11 y12 y13 y14 y15) ?_ ?_ _ ⟨_, _, _, _, _, _, _, _, _, _, rfl⟩
  · rintro i ρ _ ⟨y6, y7, y8, y9, y10, y11, y12, y13, y14, y15, rfl⟩ κ hκ
    exact sb0 p h L hL hl _ _ _ _ _ _ _ _ _ _ _ _ E fun _ _ _ _ _ _ _ _ _ _ => hκ _ ⟨_, _, _, _, _, _, _, _, _, _, rfl⟩
  · rintro ρ ⟨y6, y7, y8, y9, y10, y11, y12, y13, y14, y15, rfl⟩
    simp [dfS, startD, sCons, sNil, sSetN, sSetB, sOwnN, sOwnB, sIf, sRetB, sRetNone, sRetO, sFor, sAsgN, sAsgB, sAsgF, gTupL_l, sParN, sParB, slotR, lfR, sExpr, sAppN, sAppB, augI, gTup_t, gCons_c, gCons_n, gNil_n, gNil_c, gN, dVar, dC, vR, rV, rBin, cBin, bV, bTru, bNot, bAnd, bOr, vAnd, vOr, vNot, rIf, vIf, dNeg, dTup, dLst, dTupS, dLstS, aNil, aCons, aStar, rCall, dCall, dCallK, pick, on1, on2, dLen, i1, i2, dInt, dIsi, dTru, dFld, rCut, rRev, dRevS, oNone, oSome, dCut, iOf, iArg, zip2_e, enu1_e, rng1, rng2, rComp, bYes, cChain, cChain3, dInB, inD, D.fl, toV, L2.eqV, dAdd, dSub, dMul, dMulA, dFd, dMd, dPw, iI, iC, frz, viewN, viewB, wipeV, toSl, D.items, vDr, iDr, sDrPut, rDrNext, vDct, sNever, L2.atI, dIx, dList, dTuple, dEq, dNe, D.okd, okdL, D.eqb, D.py, pyL, dSum, dSumA, dSorted, dAll, dAny, dNotB, dIsB, dIsN, dNotN, D.isNon, sDrPull, sRaise0, vDct1, dCaught, dfL, dNeS, sRaise1, dXf, dmS, jCons, jFlds, iCons, iNil, putD, sParsN, sParsB, rsN, putK, lfRs, lfR, dCallV, sCaughtApp, sFz, rLRg1, rLRg2, dLRg, gTupL_l, vDctI, rComp2, eqv_ii, eqv_tt, eqv_ll, eqvA_c, eqvA_n]
    exact hk
end K12

set_option Elab.async false
set_option linter.all false
set_option maxRecDepth 100000
set_option maxHeartbeats 4000000
namespace K12
open PySem Dv
def F__law_refused_2 (tk : List (Str × Addr)) : DS :=
  (sCons (sSetN 9 (vR (dCall (aCons (dVar 0) (aCons (vR (dLst (aCons (dC .non) (aCons (dTup (aCons (dC (.int 2)) (aCons (dC (.int 4)) aNil))) (aCons (dTup (aCons (dC (.int 0)) (aCons (dC (.int 2)) aNil))) (aCons (dTup (aCons (dC (.int 3)) (aCons (dC (.int 2)) aNil))) (aCons (vR (dLst (aCons (dC (.int 1)) (aCons (dC (.int 2)) aNil)))) (aCons (dTup (aCons (dC (.int 1)) (aCons (vR (rBin (vR (rBin (dC (.int 10)) (dC (.int 30)) dPw)) (dC (.int 1)) dAdd)) aNil))) (aCons (dTup (aCons (dC (.bl true)) (aCons (dC (.int 2)) aNil))) aNil))))))))) aNil)) F__law_pick)))
  (sCons (sFor (iOf (vR (dLst (aCons (dC (.lam 3 tk)) (aCons (dC (.lam 2 tk)) (aCons (dC (.lam 1 tk)) aNil)))))) (gN 8) (sCons (sIf (cBin (vR (dCall (aCons (vR (dCaught Xs tk [(3, (vR (dCall (aCons (dVar 9) (aCons (dTup (aCons (dC (.int 0)) (aCons (dC (.int 1)) aNil))) aNil)) F_is_point))), (2, (vR (dCall (aCons (dVar 9) aNil) F_leg_points))), (1, (vR (dCall (aCons (dVar 9) (aCons (dC .non) aNil)) F_point_sum)))] (dVar 8))) aNil) F__law_word)) (dC (.str "pair")) dNe) (sCons (sRetB (rV (dC (.bl false))))
  sNil) sNil)
  sNil))
  (sCons (sRetB (rV (dC (.bl true))))
  sNil)))
def F__law_refused_1 (tk : List (Str × Addr)) : DS :=
  (sCons (sIf (cBin (vR (dCall (aCons (vR (dCaught Xs tk [(0, (vR (dCall (aCons (dVar 1) (aCons (dVar 10) aNil)) F_point_sum)))] (dC (.lam 0 tk)))) aNil) F__law_word)) (vR (rIf (bTru (dVar 2)) (rV (dC (.str "many 400"))) (rV (dC (.str "point"))))) dNe) (sCons (sRetB (rV (dC (.bl false))))
  sNil) sNil)
  (F__law_refused_2 tk))
def F__law_refused_0 (tk : List (Str × Addr)) : DS :=
  (sCons (sIf (bOr (bNot (bTru (vR (dCall (aCons (vR (dCall (aCons (dVar 1) (aCons (dVar 10) aNil)) F_is_point)) (aCons (dC (.bl false)) aNil)) F__law_says)))) (bNot (bTru (vR (dCall (aCons (vR (dCallK aNil (aCons (dVar 10) (aCons (dVar 1) aNil)) [1, 0] F_is_point)) (aCons (dC (.bl false)) aNil)) F__law_says))))) (sCons (sRetB (rV (dC (.bl false))))
  sNil) sNil)
  (F__law_refused_1 tk))
theorem F__law_refused_cut : F__law_refused = dfL 11 fun tk =>
  (sCons (sAsgN (dVar 1) (gTup 2 (gCons (gN 3) (gCons (gN 4) gNil))))
  (sCons (sSetN 5 (vR (dCall (aCons (dVar 0) (aCons (vR (rBin (vR (rBin (dC (.int 2)) (dVar 4) dMulA)) (dC (.int 1)) dAdd)) aNil)) F__law_take)))
  (sCons (sSetN 6 (vR (rBin (vR (rCall (aCons (vR (rBin (dVar 3) (dVar 5) dMulA)) aNil) (on1 dInt))) (vR (rCall (aCons (dVar 4) aNil) (on1 dInt))) dMd)))
  (sCons (sSetN 7 (vR (dLst (aCons (dC .non) (aCons (dC (.int 5)) (aCons (dTup (aCons (dC (.int 0)) (aCons (dC (.int 0)) aNil))) (aCons (vR (dLst (aCons (dC (.int 0)) (aCons (dVar 4) aNil)))) (aCons (dTup (aCons (dVar 5) (aCons (vR (rBin (vR (rBin (dC (.int 0)) (dVar 4) dSub)) (dVar 6) dSub)) aNil))) (aCons (dTup (aCons (vR (rBin (dC (.int 0)) (dVar 4) dSub)) (aCons (dC (.int 0)) aNil))) (aCons (dTup (aCons (dVar 5) aNil)) (aCons (dTup (aCons (dVar 5) (aCons (dVar 6) (aCons (dC (.int 0)) aNil)))) (aCons (dTup (aCons (dC (.bl true)) (aCons (vR (rBin (dVar 6) (dVar 4) dAdd)) aNil))) (aCons (dTup (aCons (dC (.int 0)) (aCons (dC (.bl true)) aNil))) (aCons (dC (.str "01")) aNil))))))))))))))
  (sCons (sSetN 7 (vR (rBin (dVar 7) (vR (rIf (cBin (dVar 4) (dC (.int 1)) dGt) (dLst (aCons (dTup (aCons (dVar 5) (aCons (vR (rBin (vR (rBin (dVar 6) (dVar 4) dAdd)) (dC (.int 1)) dAdd)) aNil))) (aCons (dTup (aCons (vR (rBin (dVar 5) (dC (.int 1)) dAdd)) (aCons (vR (rIf (cBin (dVar 3) (dC (.int 1)) dNe) (rBin (vR (rBin (dVar 6) (dVar 4) dAdd)) (dC (.int 1)) dAdd) (rBin (dVar 6) (dVar 4) dAdd))) aNil))) aNil))) (dLst aNil))) dAdd)))
  (sCons (sSetN 10 (vR (dCall (aCons (dVar 0) (aCons (dVar 7) aNil)) F__law_pick)))
  (F__law_refused_0 tk))))))) := rfl
theorem kx_non (C : Str) (hC : C ∈ Cs) : ktX Cs Es .non (.fn C) = some false := by
  show kt Cs .non (.fn C) = some false
  unfold kt ktC
  simp only [D.tn]
  rw [if_pos (by simpa using hC)]
theorem kx_x (C C' : Str) (fs : List (Str × D)) (h : C ∈ Es) (h' : C' ∈ Es) : ktX Cs Es (.xcp C fs) (.fn C') = some (decide (C = C')) := by
  show (if C ∈ Es ∧ C' ∈ Es then some (decide (C = C')) else none) = _
  rw [if_pos ⟨h, h'⟩]
theorem word_non (k : Rv → Prop) (E : Exn → Prop) (hk : k (.val (.str "other"))) : F__law_word [.non] k E := by
  simp [F__law_word, -Bool.exists_bool, dfS, startD, sCons, sNil, sSetN, sSetB, sOwnN, sOwnB, sIf, sRetB, sRetNone, sRetO, sFor, sAsgN, sAsgB, sAsgF, gTupL_l, sParN, sParB, slotR, lfR, sExpr, sAppN, sAppB, augI, gTup_t, gCons_c, gCons_n, gNil_n, gNil_c, gN, dVar, dC, vR, rV, rBin, cBin, bV, bTru, bNot, bAnd, bOr, vAnd, vOr, vNot, rIf, vIf, dNeg, dTup, dLst, dTupS, dLstS, aNil, aCons, aStar, rCall, dCall, dCallK, pick, on1, on2, dLen, i1, i2, dInt, dIsi, dTru, dFld, rCut, rRev, dRevS, oNone, oSome, dCut, iOf, iArg, zip2_e, enu1_e, rng1, rng2, rComp, bYes, cChain, cChain3, dInB, inD, D.fl, toV, L2.eqV, dAdd, dSub, dMul, dMulA, dFd, dMd, dPw, iI, iC, frz, viewN, viewB, wipeV, toSl, D.items, vDr, iDr, sDrPut, rDrNext, vDct, sNever, L2.atI, dIx, dList, dTuple, dEq, dNe, D.okd, okdL, D.eqb, PyData.eqv, D.py, pyL, dSum, dSumA, dSorted, dAll, dAny, L2.ixN, dNotB, dIsB, dIsN, dNotN, D.isNon, sDrPull, sRaise0, vDct1, dCaught, dfL, dNeS, sRaise1, dXf, dEqO, dmS, jCons, jFlds, iCons, iNil, putD, sParsN, sParsB, rsN, putK, lfRs, lfR, dCallV, sCaughtApp, dNeO, sFz, rLRg1, rLRg2, dLRg, gTupL_l, vDctI, rComp2]
  exact ⟨_, kx_non _ (by decide), rfl, fun _ => ⟨_, kx_non _ (by decide), (fun h => by cases h), fun _ => ⟨_, kx_non _ (by decide), (fun h => by cases h), fun _ => hk⟩⟩⟩
theorem word_many (k : Rv → Prop) (E : Exn → Prop) (hk : k (.val (.str "many 400"))) : F__law_word [.xcp "TooMany" [("most", .int 400)]] k E := by
  simp [F__law_word, -Bool.exists_bool, dfS, startD, sCons, sNil, sSetN, sSetB, sOwnN, sOwnB, sIf, sRetB, sRetNone, sRetO, sFor, sAsgN, sAsgB, sAsgF, gTupL_l, sParN, sParB, slotR, lfR, sExpr, sAppN, sAppB, augI, gTup_t, gCons_c, gCons_n, gNil_n, gNil_c, gN, dVar, dC, vR, rV, rBin, cBin, bV, bTru, bNot, bAnd, bOr, vAnd, vOr, vNot, rIf, vIf, dNeg, dTup, dLst, dTupS, dLstS, aNil, aCons, aStar, rCall, dCall, dCallK, pick, on1, on2, dLen, i1, i2, dInt, dIsi, dTru, dFld, rCut, rRev, dRevS, oNone, oSome, dCut, iOf, iArg, zip2_e, enu1_e, rng1, rng2, rComp, bYes, cChain, cChain3, dInB, inD, D.fl, toV, L2.eqV, dAdd, dSub, dMul, dMulA, dFd, dMd, dPw, iI, iC, frz, viewN, viewB, wipeV, toSl, D.items, vDr, iDr, sDrPut, rDrNext, vDct, sNever, L2.atI, dIx, dList, dTuple, dEq, dNe, D.okd, okdL, D.eqb, PyData.eqv, D.py, pyL, dSum, dSumA, dSorted, dAll, dAny, L2.ixN, dNotB, dIsB, dIsN, dNotN, D.isNon, sDrPull, sRaise0, vDct1, dCaught, dfL, dNeS, sRaise1, dXf, dEqO, dmS, jCons, jFlds, iCons, iNil, putD, sParsN, sParsB, rsN, putK, lfRs, lfR, dCallV, sCaughtApp, dNeO, sFz, rLRg1, rLRg2, dLRg, gTupL_l, vDctI, rComp2]
  have lk : List.lookup ("most" : Str) [(("most" : Str), D.int 400)] = some (.int 400) := by rw [List.lookup_cons, beq_self_eq_true]
  refine ⟨true, (by rw [kx_x _ _ _ (by decide) (by decide)]; decide), fun _ => ⟨_, _, ⟨rfl, rfl⟩, by decide, .int 400, lk, ?_⟩, fun h => by cases h⟩
  refine ⟨⟨by decide +kernel, by decide +kernel, Nat.le_trans (by decide +kernel : _ ≤ 1000000) szl⟩, ?_⟩
  have e : (("many " : Str) ++ (D.int 400).py.shown) = "many 400" := by decide +kernel
  refine ⟨Nat.le_trans (by decide +kernel : _ ≤ 1000000) szl, ?_⟩
  show k (.val (.str (("many " : Str) ++ (D.int 400).py.shown)))
  rw [e]; exact hk
theorem word_pair (k : Rv → Prop) (E : Exn → Prop) (hk : k (.val (.str "pair"))) : F__law_word [.xcp "BadPair" []] k E := by
  simp [F__law_word, -Bool.exists_bool, dfS, startD, sCons, sNil, sSetN, sSetB, sOwnN, sOwnB, sIf, sRetB, sRetNone, sRetO, sFor, sAsgN, sAsgB, sAsgF, gTupL_l, sParN, sParB, slotR, lfR, sExpr, sAppN, sAppB, augI, gTup_t, gCons_c, gCons_n, gNil_n, gNil_c, gN, dVar, dC, vR, rV, rBin, cBin, bV, bTru, bNot, bAnd, bOr, vAnd, vOr, vNot, rIf, vIf, dNeg, dTup, dLst, dTupS, dLstS, aNil, aCons, aStar, rCall, dCall, dCallK, pick, on1, on2, dLen, i1, i2, dInt, dIsi, dTru, dFld, rCut, rRev, dRevS, oNone, oSome, dCut, iOf, iArg, zip2_e, enu1_e, rng1, rng2, rComp, bYes, cChain, cChain3, dInB, inD, D.fl, toV, L2.eqV, dAdd, dSub, dMul, dMulA, dFd, dMd, dPw, iI, iC, frz, viewN, viewB, wipeV, toSl, D.items, vDr, iDr, sDrPut, rDrNext, vDct, sNever, L2.atI, dIx, dList, dTuple, dEq, dNe, D.okd, okdL, D.eqb, PyData.eqv, D.py, pyL, dSum, dSumA, dSorted, dAll, dAny, L2.ixN, dNotB, dIsB, dIsN, dNotN, D.isNon, sDrPull, sRaise0, vDct1, dCaught, dfL, dNeS, sRaise1, dXf, dEqO, dmS, jCons, jFlds, iCons, iNil, putD, sParsN, sParsB, rsN, putK, lfRs, lfR, dCallV, sCaughtApp, dNeO, sFz, rLRg1, rLRg2, dLRg, gTupL_l, vDctI, rComp2]
  exact ⟨false, (by rw [kx_x _ _ _ (by decide) (by decide)]; decide), (fun h => by cases h), fun _ => ⟨true, (by rw [kx_x _ _ _ (by decide) (by decide)]; decide), fun _ => hk, fun h => by cases h⟩⟩

theorem word_point (k : Rv → Prop) (E : Exn → Prop) (hk : k (.val (.str "point"))) : F__law_word [.xcp "BadPoint" []] k E := by
  simp [F__law_word, -Bool.exists_bool, dfS, startD, sCons, sNil, sSetN, sSetB, sOwnN, sOwnB, sIf, sRetB, sRetNone, sRetO, sFor, sAsgN, sAsgB, sAsgF, gTupL_l, sParN, sParB, slotR, lfR, sExpr, sAppN, sAppB, augI, gTup_t, gCons_c, gCons_n, gNil_n, gNil_c, gN, dVar, dC, vR, rV, rBin, cBin, bV, bTru, bNot, bAnd, bOr, vAnd, vOr, vNot, rIf, vIf, dNeg, dTup, dLst, dTupS, dLstS, aNil, aCons, aStar, rCall, dCall, dCallK, pick, on1, on2, dLen, i1, i2, dInt, dIsi, dTru, dFld, rCut, rRev, dRevS, oNone, oSome, dCut, iOf, iArg, zip2_e, enu1_e, rng1, rng2, rComp, bYes, cChain, cChain3, dInB, inD, D.fl, toV, L2.eqV, dAdd, dSub, dMul, dMulA, dFd, dMd, dPw, iI, iC, frz, viewN, viewB, wipeV, toSl, D.items, vDr, iDr, sDrPut, rDrNext, vDct, sNever, L2.atI, dIx, dList, dTuple, dEq, dNe, D.okd, okdL, D.eqb, PyData.eqv, D.py, pyL, dSum, dSumA, dSorted, dAll, dAny, L2.ixN, dNotB, dIsB, dIsN, dNotN, D.isNon, sDrPull, sRaise0, vDct1, dCaught, dfL, dNeS, sRaise1, dXf, dEqO, dmS, jCons, jFlds, iCons, iNil, putD, sParsN, sParsB, rsN, putK, lfRs, lfR, dCallV, sCaughtApp, dNeO, sFz, rLRg1, rLRg2, dLRg, gTupL_l, vDctI, rComp2]
  exact ⟨false, (by rw [kx_x _ _ _ (by decide) (by decide)]; decide), (fun h => by cases h), fun _ => ⟨false, (by rw [kx_x _ _ _ (by decide) (by decide)]; decide), (fun h => by cases h), fun _ => ⟨true, (by rw [kx_x _ _ _ (by decide) (by decide)]; decide), fun _ => hk, fun h => by cases h⟩⟩⟩
def NP (d : D) : Prop := ∀ (k : Rv → Prop) (E : Exn → Prop), k (.val (.bl false)) → F_is_pair [d] k E
theorem np_dp (a b : Int) (h : ¬ PO (a, b)) : NP (.tup [.int a, .int b]) := fun k E hk => by
  refine sp_is_pair (a, b) k E ?_
  rw [decide_eq_false h]; exact hk
theorem np_no (d : D) (U : String) (h : d.tn = some U) (hU : isiB U "tuple" = false) : NP d := fun k E hk => by
  simp [F_is_pair, dfS, startD, sCons, sNil, sSetN, sSetB, sOwnN, sOwnB, sIf, sRetB, sRetNone, sRetO, sFor, sAsgN, sAsgB, sAsgF, gTupL_l, sParN, sParB, slotR, lfR, sExpr, sAppN, sAppB, augI, gTup_t, gCons_c, gCons_n, gNil_n, gNil_c, gN, dVar, dC, vR, rV, rBin, cBin, bV, bTru, bNot, bAnd, bOr, vAnd, vOr, vNot, rIf, vIf, dNeg, dTup, dLst, dTupS, dLstS, aNil, aCons, aStar, rCall, dCall, dCallK, pick, on1, on2, dLen, i1, i2, dInt, dIsi, dTru, dFld, rCut, rRev, dRevS, oNone, oSome, dCut, iOf, iArg, zip2_e, enu1_e, rng1, rng2, rComp, bYes, cChain, cChain3, dInB, inD, D.fl, toV, L2.eqV, dAdd, dSub, dMul, dMulA, dFd, dMd, dPw, iI, iC, frz, viewN, viewB, wipeV, toSl, D.items, vDr, iDr, sDrPut, rDrNext, vDct, sNever, L2.atI, dIx, dList, dTuple, dEq, dNe, D.okd, okdL, D.eqb, PyData.eqv, D.py, pyL, dSum, dSumA, dSorted, dAll, dAny, L2.ixN, dNotB, dIsB, dIsN, dNotN, D.isNon, sDrPull, sRaise0, vDct1, dCaught, dfL, dNeS, sRaise1, dXf, dEqO, dmS, jCons, jFlds, iCons, iNil, putD, sParsN, sParsB, rsN, putK, lfRs, lfR, dCallV, sCaughtApp, dNeO, sFz, rLRg1, rLRg2, dLRg, gTupL_l, vDctI, rComp2]
  refine sp_is_tuple_no d _ U h hU _ _ ?_
  simp [dfS, startD, sCons, sNil, sSetN, sSetB, sOwnN, sOwnB, sIf, sRetB, sRetNone, sRetO, sFor, sAsgN, sAsgB, sAsgF, gTupL_l, sParN, sParB, slotR, lfR, sExpr, sAppN, sAppB, augI, gTup_t, gCons_c, gCons_n, gNil_n, gNil_c, gN, dVar, dC, vR, rV, rBin, cBin, bV, bTru, bNot, bAnd, bOr, vAnd, vOr, vNot, rIf, vIf, dNeg, dTup, dLst, dTupS, dLstS, aNil, aCons, aStar, rCall, dCall, dCallK, pick, on1, on2, dLen, i1, i2, dInt, dIsi, dTru, dFld, rCut, rRev, dRevS, oNone, oSome, dCut, iOf, iArg, zip2_e, enu1_e, rng1, rng2, rComp, bYes, cChain, cChain3, dInB, inD, D.fl, toV, L2.eqV, dAdd, dSub, dMul, dMulA, dFd, dMd, dPw, iI, iC, frz, viewN, viewB, wipeV, toSl, D.items, vDr, iDr, sDrPut, rDrNext, vDct, sNever, L2.atI, dIx, dList, dTuple, dEq, dNe, D.okd, okdL, D.eqb, PyData.eqv, D.py, pyL, dSum, dSumA, dSorted, dAll, dAny, L2.ixN, dNotB, dIsB, dIsN, dNotN, D.isNon, sDrPull, sRaise0, vDct1, dCaught, dfL, dNeS, sRaise1, dXf, dEqO, dmS, jCons, jFlds, iCons, iNil, putD, sParsN, sParsB, rsN, putK, lfRs, lfR, dCallV, sCaughtApp, dNeO, sFz, rLRg1, rLRg2, dLRg, gTupL_l, vDctI, rComp2]
  exact hk
theorem np_len (ds : List D) (h : (ds.length : Int) ≠ 2) : NP (.tup ds) := fun k E hk => by
  simp [F_is_pair, dfS, startD, sCons, sNil, sSetN, sSetB, sOwnN, sOwnB, sIf, sRetB, sRetNone, sRetO, sFor, sAsgN, sAsgB, sAsgF, gTupL_l, sParN, sParB, slotR, lfR, sExpr, sAppN, sAppB, augI, gTup_t, gCons_c, gCons_n, gNil_n, gNil_c, gN, dVar, dC, vR, rV, rBin, cBin, bV, bTru, bNot, bAnd, bOr, vAnd, vOr, vNot, rIf, vIf, dNeg, dTup, dLst, dTupS, dLstS, aNil, aCons, aStar, rCall, dCall, dCallK, pick, on1, on2, dLen, i1, i2, dInt, dIsi, dTru, dFld, rCut, rRev, dRevS, oNone, oSome, dCut, iOf, iArg, zip2_e, enu1_e, rng1, rng2, rComp, bYes, cChain, cChain3, dInB, inD, D.fl, toV, L2.eqV, dAdd, dSub, dMul, dMulA, dFd, dMd, dPw, iI, iC, frz, viewN, viewB, wipeV, toSl, D.items, vDr, iDr, sDrPut, rDrNext, vDct, sNever, L2.atI, dIx, dList, dTuple, dEq, dNe, D.okd, okdL, D.eqb, PyData.eqv, D.py, pyL, dSum, dSumA, dSorted, dAll, dAny, L2.ixN, dNotB, dIsB, dIsN, dNotN, D.isNon, sDrPull, sRaise0, vDct1, dCaught, dfL, dNeS, sRaise1, dXf, dEqO, dmS, jCons, jFlds, iCons, iNil, putD, sParsN, sParsB, rsN, putK, lfRs, lfR, dCallV, sCaughtApp, dNeO, sFz, rLRg1, rLRg2, dLRg, gTupL_l, vDctI, rComp2]
  refine sp_is_tuple _ _ _ _ ?_
  rw [decide_eq_false h]
  simp [dfS, startD, sCons, sNil, sSetN, sSetB, sOwnN, sOwnB, sIf, sRetB, sRetNone, sRetO, sFor, sAsgN, sAsgB, sAsgF, gTupL_l, sParN, sParB, slotR, lfR, sExpr, sAppN, sAppB, augI, gTup_t, gCons_c, gCons_n, gNil_n, gNil_c, gN, dVar, dC, vR, rV, rBin, cBin, bV, bTru, bNot, bAnd, bOr, vAnd, vOr, vNot, rIf, vIf, dNeg, dTup, dLst, dTupS, dLstS, aNil, aCons, aStar, rCall, dCall, dCallK, pick, on1, on2, dLen, i1, i2, dInt, dIsi, dTru, dFld, rCut, rRev, dRevS, oNone, oSome, dCut, iOf, iArg, zip2_e, enu1_e, rng1, rng2, rComp, bYes, cChain, cChain3, dInB, inD, D.fl, toV, L2.eqV, dAdd, dSub, dMul, dMulA, dFd, dMd, dPw, iI, iC, frz, viewN, viewB, wipeV, toSl, D.items, vDr, iDr, sDrPut, rDrNext, vDct, sNever, L2.atI, dIx, dList, dTuple, dEq, dNe, D.okd, okdL, D.eqb, PyData.eqv, D.py, pyL, dSum, dSumA, dSorted, dAll, dAny, L2.ixN, dNotB, dIsB, dIsN, dNotN, D.isNon, sDrPull, sRaise0, vDct1, dCaught, dfL, dNeS, sRaise1, dXf, dEqO, dmS, jCons, jFlds, iCons, iNil, putD, sParsN, sParsB, rsN, putK, lfRs, lfR, dCallV, sCaughtApp, dNeO, sFz, rLRg1, rLRg2, dLRg, gTupL_l, vDctI, rComp2]
  exact hk
theorem np_1 (a b : D) (U : String) (h : a.tn = some U) (hn : (isiB U "int" && !isiB U "bool") = false) : NP (.tup [a, b]) := fun k E hk => by
  simp [F_is_pair, dfS, startD, sCons, sNil, sSetN, sSetB, sOwnN, sOwnB, sIf, sRetB, sRetNone, sRetO, sFor, sAsgN, sAsgB, sAsgF, gTupL_l, sParN, sParB, slotR, lfR, sExpr, sAppN, sAppB, augI, gTup_t, gCons_c, gCons_n, gNil_n, gNil_c, gN, dVar, dC, vR, rV, rBin, cBin, bV, bTru, bNot, bAnd, bOr, vAnd, vOr, vNot, rIf, vIf, dNeg, dTup, dLst, dTupS, dLstS, aNil, aCons, aStar, rCall, dCall, dCallK, pick, on1, on2, dLen, i1, i2, dInt, dIsi, dTru, dFld, rCut, rRev, dRevS, oNone, oSome, dCut, iOf, iArg, zip2_e, enu1_e, rng1, rng2, rComp, bYes, cChain, cChain3, dInB, inD, D.fl, toV, L2.eqV, dAdd, dSub, dMul, dMulA, dFd, dMd, dPw, iI, iC, frz, viewN, viewB, wipeV, toSl, D.items, vDr, iDr, sDrPut, rDrNext, vDct, sNever, L2.atI, dIx, dList, dTuple, dEq, dNe, D.okd, okdL, D.eqb, PyData.eqv, D.py, pyL, dSum, dSumA, dSorted, dAll, dAny, L2.ixN, dNotB, dIsB, dIsN, dNotN, D.isNon, sDrPull, sRaise0, vDct1, dCaught, dfL, dNeS, sRaise1, dXf, dEqO, dmS, jCons, jFlds, iCons, iNil, putD, sParsN, sParsB, rsN, putK, lfRs, lfR, dCallV, sCaughtApp, dNeO, sFz, rLRg1, rLRg2, dLRg, gTupL_l, vDctI, rComp2]
  refine sp_is_tuple _ _ _ _ ?_
  simp [dfS, startD, sCons, sNil, sSetN, sSetB, sOwnN, sOwnB, sIf, sRetB, sRetNone, sRetO, sFor, sAsgN, sAsgB, sAsgF, gTupL_l, sParN, sParB, slotR, lfR, sExpr, sAppN, sAppB, augI, gTup_t, gCons_c, gCons_n, gNil_n, gNil_c, gN, dVar, dC, vR, rV, rBin, cBin, bV, bTru, bNot, bAnd, bOr, vAnd, vOr, vNot, rIf, vIf, dNeg, dTup, dLst, dTupS, dLstS, aNil, aCons, aStar, rCall, dCall, dCallK, pick, on1, on2, dLen, i1, i2, dInt, dIsi, dTru, dFld, rCut, rRev, dRevS, oNone, oSome, dCut, iOf, iArg, zip2_e, enu1_e, rng1, rng2, rComp, bYes, cChain, cChain3, dInB, inD, D.fl, toV, L2.eqV, dAdd, dSub, dMul, dMulA, dFd, dMd, dPw, iI, iC, frz, viewN, viewB, wipeV, toSl, D.items, vDr, iDr, sDrPut, rDrNext, vDct, sNever, L2.atI, dIx, dList, dTuple, dEq, dNe, D.okd, okdL, D.eqb, PyData.eqv, D.py, pyL, dSum, dSumA, dSorted, dAll, dAny, L2.ixN, dNotB, dIsB, dIsN, dNotN, D.isNon, sDrPull, sRaise0, vDct1, dCaught, dfL, dNeS, sRaise1, dXf, dEqO, dmS, jCons, jFlds, iCons, iNil, putD, sParsN, sParsB, rsN, putK, lfRs, lfR, dCallV, sCaughtApp, dNeO, sFz, rLRg1, rLRg2, dLRg, gTupL_l, vDctI, rComp2]
  refine sp_is_number a U h _ _ ?_
  rw [hn]
  simp [dfS, startD, sCons, sNil, sSetN, sSetB, sOwnN, sOwnB, sIf, sRetB, sRetNone, sRetO, sFor, sAsgN, sAsgB, sAsgF, gTupL_l, sParN, sParB, slotR, lfR, sExpr, sAppN, sAppB, augI, gTup_t, gCons_c, gCons_n, gNil_n, gNil_c, gN, dVar, dC, vR, rV, rBin, cBin, bV, bTru, bNot, bAnd, bOr, vAnd, vOr, vNot, rIf, vIf, dNeg, dTup, dLst, dTupS, dLstS, aNil, aCons, aStar, rCall, dCall, dCallK, pick, on1, on2, dLen, i1, i2, dInt, dIsi, dTru, dFld, rCut, rRev, dRevS, oNone, oSome, dCut, iOf, iArg, zip2_e, enu1_e, rng1, rng2, rComp, bYes, cChain, cChain3, dInB, inD, D.fl, toV, L2.eqV, dAdd, dSub, dMul, dMulA, dFd, dMd, dPw, iI, iC, frz, viewN, viewB, wipeV, toSl, D.items, vDr, iDr, sDrPut, rDrNext, vDct, sNever, L2.atI, dIx, dList, dTuple, dEq, dNe, D.okd, okdL, D.eqb, PyData.eqv, D.py, pyL, dSum, dSumA, dSorted, dAll, dAny, L2.ixN, dNotB, dIsB, dIsN, dNotN, D.isNon, sDrPull, sRaise0, vDct1, dCaught, dfL, dNeS, sRaise1, dXf, dEqO, dmS, jCons, jFlds, iCons, iNil, putD, sParsN, sParsB, rsN, putK, lfRs, lfR, dCallV, sCaughtApp, dNeO, sFz, rLRg1, rLRg2, dLRg, gTupL_l, vDctI, rComp2]
  exact hk

def bads : List D := [.non, .tup [.int 2, .int 4], .tup [.int 0, .int 2], .tup [.int 3, .int 2], .lst [.int 1, .int 2], .tup [.int 1, .int 1000000000000000000000000000001], .tup [.bl true, .int 2]]
theorem bad_np {d : D} (h : d ∈ bads) : NP d := by
  simp only [bads, List.mem_cons, List.mem_nil_iff, or_false] at h
  rcases h with rfl | rfl | rfl | rfl | rfl | rfl | rfl
  · exact np_no _ "NoneType" rfl rfl
  · exact np_dp _ _ (by decide)
  · exact np_dp _ _ (by decide)
  · exact np_dp _ _ (by decide)
  · exact np_no _ "list" rfl rfl
  · exact np_dp _ _ (by decide)
  · exact np_1 _ _ "bool" rfl rfl
theorem is_point_bad (d z : D) (h : NP d) (k : Rv → Prop) (E : Exn → Prop) (hE : E ⟨"BadPair", []⟩) : F_is_point [d, z] k E := by
  simp [F_is_point, dfS, startD, sCons, sNil, sSetN, sSetB, sOwnN, sOwnB, sIf, sRetB, sRetNone, sRetO, sFor, sAsgN, sAsgB, sAsgF, gTupL_l, sParN, sParB, slotR, lfR, sExpr, sAppN, sAppB, augI, gTup_t, gCons_c, gCons_n, gNil_n, gNil_c, gN, dVar, dC, vR, rV, rBin, cBin, bV, bTru, bNot, bAnd, bOr, vAnd, vOr, vNot, rIf, vIf, dNeg, dTup, dLst, dTupS, dLstS, aNil, aCons, aStar, rCall, dCall, dCallK, pick, on1, on2, dLen, i1, i2, dInt, dIsi, dTru, dFld, rCut, rRev, dRevS, oNone, oSome, dCut, iOf, iArg, zip2_e, enu1_e, rng1, rng2, rComp, bYes, cChain, cChain3, dInB, inD, D.fl, toV, L2.eqV, dAdd, dSub, dMul, dMulA, dFd, dMd, dPw, iI, iC, frz, viewN, viewB, wipeV, toSl, D.items, vDr, iDr, sDrPut, rDrNext, vDct, sNever, L2.atI, dIx, dList, dTuple, dEq, dNe, D.okd, okdL, D.eqb, PyData.eqv, D.py, pyL, dSum, dSumA, dSorted, dAll, dAny, L2.ixN, dNotB, dIsB, dIsN, dNotN, D.isNon, sDrPull, sRaise0, vDct1, dCaught, dfL, dNeS, sRaise1, dXf, dEqO, dmS, jCons, jFlds, iCons, iNil, putD, sParsN, sParsB, rsN, putK, lfRs, lfR, dCallV, sCaughtApp, dNeO, sFz, rLRg1, rLRg2, dLRg, gTupL_l, vDctI, rComp2]
  exact need_pair_bad d h _ _ hE
theorem leg_points_bad (d : D) (h : NP d) (k : Rv → Prop) (E : Exn → Prop) (hE : E ⟨"BadPair", []⟩) : F_leg_points [d] k E := by
  simp [F_leg_points, dfS, startD, sCons, sNil, sSetN, sSetB, sOwnN, sOwnB, sIf, sRetB, sRetNone, sRetO, sFor, sAsgN, sAsgB, sAsgF, gTupL_l, sParN, sParB, slotR, lfR, sExpr, sAppN, sAppB, augI, gTup_t, gCons_c, gCons_n, gNil_n, gNil_c, gN, dVar, dC, vR, rV, rBin, cBin, bV, bTru, bNot, bAnd, bOr, vAnd, vOr, vNot, rIf, vIf, dNeg, dTup, dLst, dTupS, dLstS, aNil, aCons, aStar, rCall, dCall, dCallK, pick, on1, on2, dLen, i1, i2, dInt, dIsi, dTru, dFld, rCut, rRev, dRevS, oNone, oSome, dCut, iOf, iArg, zip2_e, enu1_e, rng1, rng2, rComp, bYes, cChain, cChain3, dInB, inD, D.fl, toV, L2.eqV, dAdd, dSub, dMul, dMulA, dFd, dMd, dPw, iI, iC, frz, viewN, viewB, wipeV, toSl, D.items, vDr, iDr, sDrPut, rDrNext, vDct, sNever, L2.atI, dIx, dList, dTuple, dEq, dNe, D.okd, okdL, D.eqb, PyData.eqv, D.py, pyL, dSum, dSumA, dSorted, dAll, dAny, L2.ixN, dNotB, dIsB, dIsN, dNotN, D.isNon, sDrPull, sRaise0, vDct1, dCaught, dfL, dNeS, sRaise1, dXf, dEqO, dmS, jCons, jFlds, iCons, iNil, putD, sParsN, sParsB, rsN, putK, lfRs, lfR, dCallV, sCaughtApp, dNeO, sFz, rLRg1, rLRg2, dLRg, gTupL_l, vDctI, rComp2]
  exact need_pair_bad d h _ _ hE
theorem point_sum_bad (d z : D) (h : NP d) (k : Rv → Prop) (E : Exn → Prop) (hE : E ⟨"BadPair", []⟩) : F_point_sum [d, z] k E := by
  simp [F_point_sum, dfS, startD, sCons, sNil, sSetN, sSetB, sOwnN, sOwnB, sIf, sRetB, sRetNone, sRetO, sFor, sAsgN, sAsgB, sAsgF, gTupL_l, sParN, sParB, slotR, lfR, sExpr, sAppN, sAppB, augI, gTup_t, gCons_c, gCons_n, gNil_n, gNil_c, gN, dVar, dC, vR, rV, rBin, cBin, bV, bTru, bNot, bAnd, bOr, vAnd, vOr, vNot, rIf, vIf, dNeg, dTup, dLst, dTupS, dLstS, aNil, aCons, aStar, rCall, dCall, dCallK, pick, on1, on2, dLen, i1, i2, dInt, dIsi, dTru, dFld, rCut, rRev, dRevS, oNone, oSome, dCut, iOf, iArg, zip2_e, enu1_e, rng1, rng2, rComp, bYes, cChain, cChain3, dInB, inD, D.fl, toV, L2.eqV, dAdd, dSub, dMul, dMulA, dFd, dMd, dPw, iI, iC, frz, viewN, viewB, wipeV, toSl, D.items, vDr, iDr, sDrPut, rDrNext, vDct, sNever, L2.atI, dIx, dList, dTuple, dEq, dNe, D.okd, okdL, D.eqb, PyData.eqv, D.py, pyL, dSum, dSumA, dSorted, dAll, dAny, L2.ixN, dNotB, dIsB, dIsN, dNotN, D.isNon, sDrPull, sRaise0, vDct1, dCaught, dfL, dNeS, sRaise1, dXf, dEqO, dmS, jCons, jFlds, iCons, iNil, putD, sParsN, sParsB, rsN, putK, lfRs, lfR, dCallV, sCaughtApp, dNeO, sFz, rLRg1, rLRg2, dLRg, gTupL_l, vDctI, rComp2]
  exact need_pair_bad d h _ _ hE
def NZ (p : Q2) (d : D) : Prop := ∀ (k : Rv → Prop) (E : Exn → Prop), k (.val (.bl false)) → F_is_point_of [dp p, d] k E
theorem nz_dp {p : Q2} (h : PO p) (z : Q2) (hz : z.1.natAbs < 2 ^ 1000) (hn : ¬ Lp p.1 p.2 z) : NZ p (dp z) := fun k E hk => by
  refine sp_is_point_of p h z hz k E ?_
  rw [show ptB p z = false by rw [← Bool.not_eq_true]; exact fun e => hn (ptB_lp.mp e)]
  exact hk
theorem nz_no (p : Q2) (d : D) (U : String) (h : d.tn = some U) (hU : isiB U "tuple" = false) : NZ p d := fun k E hk => by
  simp [F_is_point_of, dfS, startD, sCons, sNil, sSetN, sSetB, sOwnN, sOwnB, sIf, sRetB, sRetNone, sRetO, sFor, sAsgN, sAsgB, sAsgF, gTupL_l, sParN, sParB, slotR, lfR, sExpr, sAppN, sAppB, augI, gTup_t, gCons_c, gCons_n, gNil_n, gNil_c, gN, dVar, dC, vR, rV, rBin, cBin, bV, bTru, bNot, bAnd, bOr, vAnd, vOr, vNot, rIf, vIf, dNeg, dTup, dLst, dTupS, dLstS, aNil, aCons, aStar, rCall, dCall, dCallK, pick, on1, on2, dLen, i1, i2, dInt, dIsi, dTru, dFld, rCut, rRev, dRevS, oNone, oSome, dCut, iOf, iArg, zip2_e, enu1_e, rng1, rng2, rComp, bYes, cChain, cChain3, dInB, inD, D.fl, toV, L2.eqV, dAdd, dSub, dMul, dMulA, dFd, dMd, dPw, iI, iC, frz, viewN, viewB, wipeV, toSl, D.items, vDr, iDr, sDrPut, rDrNext, vDct, sNever, L2.atI, dIx, dList, dTuple, dEq, dNe, D.okd, okdL, D.eqb, PyData.eqv, D.py, pyL, dSum, dSumA, dSorted, dAll, dAny, L2.ixN, dNotB, dIsB, dIsN, dNotN, D.isNon, sDrPull, sRaise0, vDct1, dCaught, dfL, dNeS, sRaise1, dXf, dEqO, dmS, jCons, jFlds, iCons, iNil, putD, sParsN, sParsB, rsN, putK, lfRs, lfR, dCallV, sCaughtApp, dNeO, sFz, rLRg1, rLRg2, dLRg, gTupL_l, vDctI, rComp2]
  refine sp_is_tuple_no d _ U h hU _ _ ?_
  simp [dfS, startD, sCons, sNil, sSetN, sSetB, sOwnN, sOwnB, sIf, sRetB, sRetNone, sRetO, sFor, sAsgN, sAsgB, sAsgF, gTupL_l, sParN, sParB, slotR, lfR, sExpr, sAppN, sAppB, augI, gTup_t, gCons_c, gCons_n, gNil_n, gNil_c, gN, dVar, dC, vR, rV, rBin, cBin, bV, bTru, bNot, bAnd, bOr, vAnd, vOr, vNot, rIf, vIf, dNeg, dTup, dLst, dTupS, dLstS, aNil, aCons, aStar, rCall, dCall, dCallK, pick, on1, on2, dLen, i1, i2, dInt, dIsi, dTru, dFld, rCut, rRev, dRevS, oNone, oSome, dCut, iOf, iArg, zip2_e, enu1_e, rng1, rng2, rComp, bYes, cChain, cChain3, dInB, inD, D.fl, toV, L2.eqV, dAdd, dSub, dMul, dMulA, dFd, dMd, dPw, iI, iC, frz, viewN, viewB, wipeV, toSl, D.items, vDr, iDr, sDrPut, rDrNext, vDct, sNever, L2.atI, dIx, dList, dTuple, dEq, dNe, D.okd, okdL, D.eqb, PyData.eqv, D.py, pyL, dSum, dSumA, dSorted, dAll, dAny, L2.ixN, dNotB, dIsB, dIsN, dNotN, D.isNon, sDrPull, sRaise0, vDct1, dCaught, dfL, dNeS, sRaise1, dXf, dEqO, dmS, jCons, jFlds, iCons, iNil, putD, sParsN, sParsB, rsN, putK, lfRs, lfR, dCallV, sCaughtApp, dNeO, sFz, rLRg1, rLRg2, dLRg, gTupL_l, vDctI, rComp2]
  exact hk
theorem nz_len (p : Q2) (ds : List D) (h : (ds.length : Int) ≠ 2) : NZ p (.tup ds) := fun k E hk => by
  simp [F_is_point_of, dfS, startD, sCons, sNil, sSetN, sSetB, sOwnN, sOwnB, sIf, sRetB, sRetNone, sRetO, sFor, sAsgN, sAsgB, sAsgF, gTupL_l, sParN, sParB, slotR, lfR, sExpr, sAppN, sAppB, augI, gTup_t, gCons_c, gCons_n, gNil_n, gNil_c, gN, dVar, dC, vR, rV, rBin, cBin, bV, bTru, bNot, bAnd, bOr, vAnd, vOr, vNot, rIf, vIf, dNeg, dTup, dLst, dTupS, dLstS, aNil, aCons, aStar, rCall, dCall, dCallK, pick, on1, on2, dLen, i1, i2, dInt, dIsi, dTru, dFld, rCut, rRev, dRevS, oNone, oSome, dCut, iOf, iArg, zip2_e, enu1_e, rng1, rng2, rComp, bYes, cChain, cChain3, dInB, inD, D.fl, toV, L2.eqV, dAdd, dSub, dMul, dMulA, dFd, dMd, dPw, iI, iC, frz, viewN, viewB, wipeV, toSl, D.items, vDr, iDr, sDrPut, rDrNext, vDct, sNever, L2.atI, dIx, dList, dTuple, dEq, dNe, D.okd, okdL, D.eqb, PyData.eqv, D.py, pyL, dSum, dSumA, dSorted, dAll, dAny, L2.ixN, dNotB, dIsB, dIsN, dNotN, D.isNon, sDrPull, sRaise0, vDct1, dCaught, dfL, dNeS, sRaise1, dXf, dEqO, dmS, jCons, jFlds, iCons, iNil, putD, sParsN, sParsB, rsN, putK, lfRs, lfR, dCallV, sCaughtApp, dNeO, sFz, rLRg1, rLRg2, dLRg, gTupL_l, vDctI, rComp2]
  refine sp_is_tuple _ _ _ _ ?_
  rw [decide_eq_false h]
  simp [dfS, startD, sCons, sNil, sSetN, sSetB, sOwnN, sOwnB, sIf, sRetB, sRetNone, sRetO, sFor, sAsgN, sAsgB, sAsgF, gTupL_l, sParN, sParB, slotR, lfR, sExpr, sAppN, sAppB, augI, gTup_t, gCons_c, gCons_n, gNil_n, gNil_c, gN, dVar, dC, vR, rV, rBin, cBin, bV, bTru, bNot, bAnd, bOr, vAnd, vOr, vNot, rIf, vIf, dNeg, dTup, dLst, dTupS, dLstS, aNil, aCons, aStar, rCall, dCall, dCallK, pick, on1, on2, dLen, i1, i2, dInt, dIsi, dTru, dFld, rCut, rRev, dRevS, oNone, oSome, dCut, iOf, iArg, zip2_e, enu1_e, rng1, rng2, rComp, bYes, cChain, cChain3, dInB, inD, D.fl, toV, L2.eqV, dAdd, dSub, dMul, dMulA, dFd, dMd, dPw, iI, iC, frz, viewN, viewB, wipeV, toSl, D.items, vDr, iDr, sDrPut, rDrNext, vDct, sNever, L2.atI, dIx, dList, dTuple, dEq, dNe, D.okd, okdL, D.eqb, PyData.eqv, D.py, pyL, dSum, dSumA, dSorted, dAll, dAny, L2.ixN, dNotB, dIsB, dIsN, dNotN, D.isNon, sDrPull, sRaise0, vDct1, dCaught, dfL, dNeS, sRaise1, dXf, dEqO, dmS, jCons, jFlds, iCons, iNil, putD, sParsN, sParsB, rsN, putK, lfRs, lfR, dCallV, sCaughtApp, dNeO, sFz, rLRg1, rLRg2, dLRg, gTupL_l, vDctI, rComp2]
  exact hk
theorem nz_1 (p : Q2) (a b : D) (U : String) (h : a.tn = some U) (hn : (isiB U "int" && !isiB U "bool") = false) : NZ p (.tup [a, b]) := fun k E hk => by
  simp [F_is_point_of, dfS, startD, sCons, sNil, sSetN, sSetB, sOwnN, sOwnB, sIf, sRetB, sRetNone, sRetO, sFor, sAsgN, sAsgB, sAsgF, gTupL_l, sParN, sParB, slotR, lfR, sExpr, sAppN, sAppB, augI, gTup_t, gCons_c, gCons_n, gNil_n, gNil_c, gN, dVar, dC, vR, rV, rBin, cBin, bV, bTru, bNot, bAnd, bOr, vAnd, vOr, vNot, rIf, vIf, dNeg, dTup, dLst, dTupS, dLstS, aNil, aCons, aStar, rCall, dCall, dCallK, pick, on1, on2, dLen, i1, i2, dInt, dIsi, dTru, dFld, rCut, rRev, dRevS, oNone, oSome, dCut, iOf, iArg, zip2_e, enu1_e, rng1, rng2, rComp, bYes, cChain, cChain3, dInB, inD, D.fl, toV, L2.eqV, dAdd, dSub, dMul, dMulA, dFd, dMd, dPw, iI, iC, frz, viewN, viewB, wipeV, toSl, D.items, vDr, iDr, sDrPut, rDrNext, vDct, sNever, L2.atI, dIx, dList, dTuple, dEq, dNe, D.okd, okdL, D.eqb, PyData.eqv, D.py, pyL, dSum, dSumA, dSorted, dAll, dAny, L2.ixN, dNotB, dIsB, dIsN, dNotN, D.isNon, sDrPull, sRaise0, vDct1, dCaught, dfL, dNeS, sRaise1, dXf, dEqO, dmS, jCons, jFlds, iCons, iNil, putD, sParsN, sParsB, rsN, putK, lfRs, lfR, dCallV, sCaughtApp, dNeO, sFz, rLRg1, rLRg2, dLRg, gTupL_l, vDctI, rComp2]
  refine sp_is_tuple _ _ _ _ ?_
  simp [dfS, startD, sCons, sNil, sSetN, sSetB, sOwnN, sOwnB, sIf, sRetB, sRetNone, sRetO, sFor, sAsgN, sAsgB, sAsgF, gTupL_l, sParN, sParB, slotR, lfR, sExpr, sAppN, sAppB, augI, gTup_t, gCons_c, gCons_n, gNil_n, gNil_c, gN, dVar, dC, vR, rV, rBin, cBin, bV, bTru, bNot, bAnd, bOr, vAnd, vOr, vNot, rIf, vIf, dNeg, dTup, dLst, dTupS, dLstS, aNil, aCons, aStar, rCall, dCall, dCallK, pick, on1, on2, dLen, i1, i2, dInt, dIsi, dTru, dFld, rCut, rRev, dRevS, oNone, oSome, dCut, iOf, iArg, zip2_e, enu1_e, rng1, rng2, rComp, bYes, cChain, cChain3, dInB, inD, D.fl, toV, L2.eqV, dAdd, dSub, dMul, dMulA, dFd, dMd, dPw, iI, iC, frz, viewN, viewB, wipeV, toSl, D.items, vDr, iDr, sDrPut, rDrNext, vDct, sNever, L2.atI, dIx, dList, dTuple, dEq, dNe, D.okd, okdL, D.eqb, PyData.eqv, D.py, pyL, dSum, dSumA, dSorted, dAll, dAny, L2.ixN, dNotB, dIsB, dIsN, dNotN, D.isNon, sDrPull, sRaise0, vDct1, dCaught, dfL, dNeS, sRaise1, dXf, dEqO, dmS, jCons, jFlds, iCons, iNil, putD, sParsN, sParsB, rsN, putK, lfRs, lfR, dCallV, sCaughtApp, dNeO, sFz, rLRg1, rLRg2, dLRg, gTupL_l, vDctI, rComp2]
  refine sp_is_number a U h _ _ ?_
  rw [hn]
  simp [dfS, startD, sCons, sNil, sSetN, sSetB, sOwnN, sOwnB, sIf, sRetB, sRetNone, sRetO, sFor, sAsgN, sAsgB, sAsgF, gTupL_l, sParN, sParB, slotR, lfR, sExpr, sAppN, sAppB, augI, gTup_t, gCons_c, gCons_n, gNil_n, gNil_c, gN, dVar, dC, vR, rV, rBin, cBin, bV, bTru, bNot, bAnd, bOr, vAnd, vOr, vNot, rIf, vIf, dNeg, dTup, dLst, dTupS, dLstS, aNil, aCons, aStar, rCall, dCall, dCallK, pick, on1, on2, dLen, i1, i2, dInt, dIsi, dTru, dFld, rCut, rRev, dRevS, oNone, oSome, dCut, iOf, iArg, zip2_e, enu1_e, rng1, rng2, rComp, bYes, cChain, cChain3, dInB, inD, D.fl, toV, L2.eqV, dAdd, dSub, dMul, dMulA, dFd, dMd, dPw, iI, iC, frz, viewN, viewB, wipeV, toSl, D.items, vDr, iDr, sDrPut, rDrNext, vDct, sNever, L2.atI, dIx, dList, dTuple, dEq, dNe, D.okd, okdL, D.eqb, PyData.eqv, D.py, pyL, dSum, dSumA, dSorted, dAll, dAny, L2.ixN, dNotB, dIsB, dIsN, dNotN, D.isNon, sDrPull, sRaise0, vDct1, dCaught, dfL, dNeS, sRaise1, dXf, dEqO, dmS, jCons, jFlds, iCons, iNil, putD, sParsN, sParsB, rsN, putK, lfRs, lfR, dCallV, sCaughtApp, dNeO, sFz, rLRg1, rLRg2, dLRg, gTupL_l, vDctI, rComp2]
  exact hk
theorem nz_2 (p : Q2) (i : Int) (b : D) (U : String) (h : b.tn = some U) (hn : (isiB U "int" && !isiB U "bool") = false) : NZ p (.tup [.int i, b]) := fun k E hk => by
  simp [F_is_point_of, dfS, startD, sCons, sNil, sSetN, sSetB, sOwnN, sOwnB, sIf, sRetB, sRetNone, sRetO, sFor, sAsgN, sAsgB, sAsgF, gTupL_l, sParN, sParB, slotR, lfR, sExpr, sAppN, sAppB, augI, gTup_t, gCons_c, gCons_n, gNil_n, gNil_c, gN, dVar, dC, vR, rV, rBin, cBin, bV, bTru, bNot, bAnd, bOr, vAnd, vOr, vNot, rIf, vIf, dNeg, dTup, dLst, dTupS, dLstS, aNil, aCons, aStar, rCall, dCall, dCallK, pick, on1, on2, dLen, i1, i2, dInt, dIsi, dTru, dFld, rCut, rRev, dRevS, oNone, oSome, dCut, iOf, iArg, zip2_e, enu1_e, rng1, rng2, rComp, bYes, cChain, cChain3, dInB, inD, D.fl, toV, L2.eqV, dAdd, dSub, dMul, dMulA, dFd, dMd, dPw, iI, iC, frz, viewN, viewB, wipeV, toSl, D.items, vDr, iDr, sDrPut, rDrNext, vDct, sNever, L2.atI, dIx, dList, dTuple, dEq, dNe, D.okd, okdL, D.eqb, PyData.eqv, D.py, pyL, dSum, dSumA, dSorted, dAll, dAny, L2.ixN, dNotB, dIsB, dIsN, dNotN, D.isNon, sDrPull, sRaise0, vDct1, dCaught, dfL, dNeS, sRaise1, dXf, dEqO, dmS, jCons, jFlds, iCons, iNil, putD, sParsN, sParsB, rsN, putK, lfRs, lfR, dCallV, sCaughtApp, dNeO, sFz, rLRg1, rLRg2, dLRg, gTupL_l, vDctI, rComp2]
  refine sp_is_tuple _ _ _ _ ?_
  simp [dfS, startD, sCons, sNil, sSetN, sSetB, sOwnN, sOwnB, sIf, sRetB, sRetNone, sRetO, sFor, sAsgN, sAsgB, sAsgF, gTupL_l, sParN, sParB, slotR, lfR, sExpr, sAppN, sAppB, augI, gTup_t, gCons_c, gCons_n, gNil_n, gNil_c, gN, dVar, dC, vR, rV, rBin, cBin, bV, bTru, bNot, bAnd, bOr, vAnd, vOr, vNot, rIf, vIf, dNeg, dTup, dLst, dTupS, dLstS, aNil, aCons, aStar, rCall, dCall, dCallK, pick, on1, on2, dLen, i1, i2, dInt, dIsi, dTru, dFld, rCut, rRev, dRevS, oNone, oSome, dCut, iOf, iArg, zip2_e, enu1_e, rng1, rng2, rComp, bYes, cChain, cChain3, dInB, inD, D.fl, toV, L2.eqV, dAdd, dSub, dMul, dMulA, dFd, dMd, dPw, iI, iC, frz, viewN, viewB, wipeV, toSl, D.items, vDr, iDr, sDrPut, rDrNext, vDct, sNever, L2.atI, dIx, dList, dTuple, dEq, dNe, D.okd, okdL, D.eqb, PyData.eqv, D.py, pyL, dSum, dSumA, dSorted, dAll, dAny, L2.ixN, dNotB, dIsB, dIsN, dNotN, D.isNon, sDrPull, sRaise0, vDct1, dCaught, dfL, dNeS, sRaise1, dXf, dEqO, dmS, jCons, jFlds, iCons, iNil, putD, sParsN, sParsB, rsN, putK, lfRs, lfR, dCallV, sCaughtApp, dNeO, sFz, rLRg1, rLRg2, dLRg, gTupL_l, vDctI, rComp2]
  refine sp_num_int _ _ _ ?_
  simp [dfS, startD, sCons, sNil, sSetN, sSetB, sOwnN, sOwnB, sIf, sRetB, sRetNone, sRetO, sFor, sAsgN, sAsgB, sAsgF, gTupL_l, sParN, sParB, slotR, lfR, sExpr, sAppN, sAppB, augI, gTup_t, gCons_c, gCons_n, gNil_n, gNil_c, gN, dVar, dC, vR, rV, rBin, cBin, bV, bTru, bNot, bAnd, bOr, vAnd, vOr, vNot, rIf, vIf, dNeg, dTup, dLst, dTupS, dLstS, aNil, aCons, aStar, rCall, dCall, dCallK, pick, on1, on2, dLen, i1, i2, dInt, dIsi, dTru, dFld, rCut, rRev, dRevS, oNone, oSome, dCut, iOf, iArg, zip2_e, enu1_e, rng1, rng2, rComp, bYes, cChain, cChain3, dInB, inD, D.fl, toV, L2.eqV, dAdd, dSub, dMul, dMulA, dFd, dMd, dPw, iI, iC, frz, viewN, viewB, wipeV, toSl, D.items, vDr, iDr, sDrPut, rDrNext, vDct, sNever, L2.atI, dIx, dList, dTuple, dEq, dNe, D.okd, okdL, D.eqb, PyData.eqv, D.py, pyL, dSum, dSumA, dSorted, dAll, dAny, L2.ixN, dNotB, dIsB, dIsN, dNotN, D.isNon, sDrPull, sRaise0, vDct1, dCaught, dfL, dNeS, sRaise1, dXf, dEqO, dmS, jCons, jFlds, iCons, iNil, putD, sParsN, sParsB, rsN, putK, lfRs, lfR, dCallV, sCaughtApp, dNeO, sFz, rLRg1, rLRg2, dLRg, gTupL_l, vDctI, rComp2]
  refine sp_is_number b U h _ _ ?_
  rw [hn]
  simp [dfS, startD, sCons, sNil, sSetN, sSetB, sOwnN, sOwnB, sIf, sRetB, sRetNone, sRetO, sFor, sAsgN, sAsgB, sAsgF, gTupL_l, sParN, sParB, slotR, lfR, sExpr, sAppN, sAppB, augI, gTup_t, gCons_c, gCons_n, gNil_n, gNil_c, gN, dVar, dC, vR, rV, rBin, cBin, bV, bTru, bNot, bAnd, bOr, vAnd, vOr, vNot, rIf, vIf, dNeg, dTup, dLst, dTupS, dLstS, aNil, aCons, aStar, rCall, dCall, dCallK, pick, on1, on2, dLen, i1, i2, dInt, dIsi, dTru, dFld, rCut, rRev, dRevS, oNone, oSome, dCut, iOf, iArg, zip2_e, enu1_e, rng1, rng2, rComp, bYes, cChain, cChain3, dInB, inD, D.fl, toV, L2.eqV, dAdd, dSub, dMul, dMulA, dFd, dMd, dPw, iI, iC, frz, viewN, viewB, wipeV, toSl, D.items, vDr, iDr, sDrPut, rDrNext, vDct, sNever, L2.atI, dIx, dList, dTuple, dEq, dNe, D.okd, okdL, D.eqb, PyData.eqv, D.py, pyL, dSum, dSumA, dSorted, dAll, dAny, L2.ixN, dNotB, dIsB, dIsN, dNotN, D.isNon, sDrPull, sRaise0, vDct1, dCaught, dfL, dNeS, sRaise1, dXf, dEqO, dmS, jCons, jFlds, iCons, iNil, putD, sParsN, sParsB, rsN, putK, lfRs, lfR, dCallV, sCaughtApp, dNeO, sFz, rLRg1, rLRg2, dLRg, gTupL_l, vDctI, rComp2]
  exact hk
theorem is_point_no {p : Q2} (h : PO p) {d : D} (hd : NZ p d) (k : Rv → Prop) (E : Exn → Prop) (hk : k (.val (.bl false))) : F_is_point [dp p, d] k E := by
  simp [F_is_point, dfS, startD, sCons, sNil, sSetN, sSetB, sOwnN, sOwnB, sIf, sRetB, sRetNone, sRetO, sFor, sAsgN, sAsgB, sAsgF, gTupL_l, sParN, sParB, slotR, lfR, sExpr, sAppN, sAppB, augI, gTup_t, gCons_c, gCons_n, gNil_n, gNil_c, gN, dVar, dC, vR, rV, rBin, cBin, bV, bTru, bNot, bAnd, bOr, vAnd, vOr, vNot, rIf, vIf, dNeg, dTup, dLst, dTupS, dLstS, aNil, aCons, aStar, rCall, dCall, dCallK, pick, on1, on2, dLen, i1, i2, dInt, dIsi, dTru, dFld, rCut, rRev, dRevS, oNone, oSome, dCut, iOf, iArg, zip2_e, enu1_e, rng1, rng2, rComp, bYes, cChain, cChain3, dInB, inD, D.fl, toV, L2.eqV, dAdd, dSub, dMul, dMulA, dFd, dMd, dPw, iI, iC, frz, viewN, viewB, wipeV, toSl, D.items, vDr, iDr, sDrPut, rDrNext, vDct, sNever, L2.atI, dIx, dList, dTuple, dEq, dNe, D.okd, okdL, D.eqb, PyData.eqv, D.py, pyL, dSum, dSumA, dSorted, dAll, dAny, L2.ixN, dNotB, dIsB, dIsN, dNotN, D.isNon, sDrPull, sRaise0, vDct1, dCaught, dfL, dNeS, sRaise1, dXf, dEqO, dmS, jCons, jFlds, iCons, iNil, putD, sParsN, sParsB, rsN, putK, lfRs, lfR, dCallV, sCaughtApp, dNeO, sFz, rLRg1, rLRg2, dLRg, gTupL_l, vDctI, rComp2]
  refine sp_need_pair p h _ _ ?_
  exact hd _ _ hk
theorem point_sum_no {p : Q2} (h : PO p) {L : List Int} (hL : Leg L p.1 p.2) {d : D} (hd : NZ p d) (k : Rv → Prop) (E : Exn → Prop) (h1 : L.length ≤ 400 → E ⟨"BadPoint", []⟩) (h2 : 400 < L.length → E many) : F_point_sum [dp p, d] k E := by
  simp [F_point_sum, dfS, startD, sCons, sNil, sSetN, sSetB, sOwnN, sOwnB, sIf, sRetB, sRetNone, sRetO, sFor, sAsgN, sAsgB, sAsgF, gTupL_l, sParN, sParB, slotR, lfR, sExpr, sAppN, sAppB, augI, gTup_t, gCons_c, gCons_n, gNil_n, gNil_c, gN, dVar, dC, vR, rV, rBin, cBin, bV, bTru, bNot, bAnd, bOr, vAnd, vOr, vNot, rIf, vIf, dNeg, dTup, dLst, dTupS, dLstS, aNil, aCons, aStar, rCall, dCall, dCallK, pick, on1, on2, dLen, i1, i2, dInt, dIsi, dTru, dFld, rCut, rRev, dRevS, oNone, oSome, dCut, iOf, iArg, zip2_e, enu1_e, rng1, rng2, rComp, bYes, cChain, cChain3, dInB, inD, D.fl, toV, L2.eqV, dAdd, dSub, dMul, dMulA, dFd, dMd, dPw, iI, iC, frz, viewN, viewB, wipeV, toSl, D.items, vDr, iDr, sDrPut, rDrNext, vDct, sNever, L2.atI, dIx, dList, dTuple, dEq, dNe, D.okd, okdL, D.eqb, PyData.eqv, D.py, pyL, dSum, dSumA, dSorted, dAll, dAny, L2.ixN, dNotB, dIsB, dIsN, dNotN, D.isNon, sDrPull, sRaise0, vDct1, dCaught, dfL, dNeS, sRaise1, dXf, dEqO, dmS, jCons, jFlds, iCons, iNil, putD, sParsN, sParsB, rsN, putK, lfRs, lfR, dCallV, sCaughtApp, dNeO, sFz, rLRg1, rLRg2, dLRg, gTupL_l, vDctI, rComp2]
  refine sp_need_pair p h _ _ ?_
  refine sp_points_of p h L hL _ _ (fun hl => ?_) h2
  refine hd _ _ ?_
  simp [dfS, startD, sCons, sNil, sSetN, sSetB, sOwnN, sOwnB, sIf, sRetB, sRetNone, sRetO, sFor, sAsgN, sAsgB, sAsgF, gTupL_l, sParN, sParB, slotR, lfR, sExpr, sAppN, sAppB, augI, gTup_t, gCons_c, gCons_n, gNil_n, gNil_c, gN, dVar, dC, vR, rV, rBin, cBin, bV, bTru, bNot, bAnd, bOr, vAnd, vOr, vNot, rIf, vIf, dNeg, dTup, dLst, dTupS, dLstS, aNil, aCons, aStar, rCall, dCall, dCallK, pick, on1, on2, dLen, i1, i2, dInt, dIsi, dTru, dFld, rCut, rRev, dRevS, oNone, oSome, dCut, iOf, iArg, zip2_e, enu1_e, rng1, rng2, rComp, bYes, cChain, cChain3, dInB, inD, D.fl, toV, L2.eqV, dAdd, dSub, dMul, dMulA, dFd, dMd, dPw, iI, iC, frz, viewN, viewB, wipeV, toSl, D.items, vDr, iDr, sDrPut, rDrNext, vDct, sNever, L2.atI, dIx, dList, dTuple, dEq, dNe, D.okd, okdL, D.eqb, PyData.eqv, D.py, pyL, dSum, dSumA, dSorted, dAll, dAny, L2.ixN, dNotB, dIsB, dIsN, dNotN, D.isNon, sDrPull, sRaise0, vDct1, dCaught, dfL, dNeS, sRaise1, dXf, dEqO, dmS, jCons, jFlds, iCons, iNil, putD, sParsN, sParsB, rsN, putK, lfRs, lfR, dCallV, sCaughtApp, dNeO, sFz, rLRg1, rLRg2, dLRg, gTupL_l, vDctI, rComp2]
  exact h1 hl
abbrev RF (p : Q2) (b : Bool) (x5 x6 x7 x8 x9 : Option Slot) (o : D) : Sl := [some (.val .drw), some (.val (dp p)), some (.val (.bl b)), some (.val (.int p.1)), some (.val (.int p.2)), x5, x6, x7, x8, x9, some (.val o)]
theorem r2 (tk : List (Str × Addr)) (p : Q2) (b : Bool) (x5 x6 x7 x8 x9 : Option Slot) (o : D) (κ : Ks) (E : Exn → Prop) (hk : κ.rt (.val (.bl true))) : F__law_refused_2 tk (RF p b x5 x6 x7 x8 x9 o) κ E := by
  have c30 : L2.CPow 10 30 := ⟨by decide, by decide, by decide⟩
  have ne : ∀ {P : Prop}, PyData.eqv (.str "pair") (.str "pair") = false → P := fun c => by
    rw [eqv_ss, beq_self_eq_true] at c; cases c
  simp [F__law_refused_2, RF, forD, dfS, startD, sCons, sNil, sSetN, sSetB, sOwnN, sOwnB, sIf, sRetB, sRetNone, sRetO, sFor, sAsgN, sAsgB, sAsgF, gTupL_l, sParN, sParB, slotR, lfR, sExpr, sAppN, sAppB, augI, gTup_t, gCons_c, gCons_n, gNil_n, gNil_c, gN, dVar, dC, vR, rV, rBin, cBin, bV, bTru, bNot, bAnd, bOr, vAnd, vOr, vNot, rIf, vIf, dNeg, dTup, dLst, dTupS, dLstS, aNil, aCons, aStar, rCall, dCall, dCallK, pick, on1, on2, dLen, i1, i2, dInt, dIsi, dTru, dFld, rCut, rRev, dRevS, oNone, oSome, dCut, iOf, iArg, zip2_e, enu1_e, rng1, rng2, rComp, bYes, cChain, cChain3, dInB, inD, D.fl, toV, L2.eqV, dAdd, dSub, dMul, dMulA, dFd, dMd, dPw, iI, iC, frz, viewN, viewB, wipeV, toSl, D.items, vDr, iDr, sDrPut, rDrNext, vDct, sNever, L2.atI, dIx, dList, dTuple, dEq, dNe, D.okd, okdL, D.eqb, D.py, pyL, dSum, dSumA, dSorted, dAll, dAny, dNotB, dIsB, dIsN, dNotN, D.isNon, sDrPull, sRaise0, vDct1, dCaught, dfL, dNeS, sRaise1, dXf, dmS, jCons, jFlds, iCons, iNil, putD, sParsN, sParsB, rsN, putK, lfRs, lfR, dCallV, sCaughtApp, sFz, rLRg1, rLRg2, dLRg, gTupL_l, vDctI, rComp2, eqv_ii, eqv_tt, eqv_ll, eqvA_c, eqvA_n]
  refine ⟨c30, sp_pick bads _ _ (by simp [bads]) (by simp [bads]) fun bd hbd => ?_⟩
  have hb := bad_np hbd
  refine is_point_bad bd _ hb _ _ ⟨by decide, word_pair _ _ ⟨⟨by decide +kernel, by decide +kernel⟩, fun c => ne c, fun _ => ?_⟩⟩
  refine leg_points_bad bd hb _ _ ⟨by decide, word_pair _ _ ⟨⟨by decide +kernel, by decide +kernel⟩, fun c => ne c, fun _ => ?_⟩⟩
  refine point_sum_bad bd _ hb _ _ ⟨by decide, word_pair _ _ ⟨⟨by decide +kernel, by decide +kernel⟩, fun c => ne c, fun _ => ?_⟩⟩
  exact hk
theorem r1 (tk : List (Str × Addr)) (p : Q2) (h : PO p) (L : List Int) (hL : Leg L p.1 p.2) (x5 x6 x7 x8 x9 : Option Slot) (o : D) (ho : NZ p o) (κ : Ks) (E : Exn → Prop) (hk : κ.rt (.val (.bl true))) : F__law_refused_1 tk (RF p (decide (400 < L.length)) x5 x6 x7 x8 x9 o) κ E := by
  have fin := r2 tk p (decide (400 < L.length)) x5 x6 x7 x8 x9 o κ E hk
  have ne : ∀ {P : Prop}, PyData.eqv (.str "point") (.str "point") = false → P := fun c => by
    rw [eqv_ss, beq_self_eq_true] at c; cases c
  have ne2 : ∀ {P : Prop}, PyData.eqv (.str "many 400") (.str "many 400") = false → P := fun c => by
    rw [eqv_ss, beq_self_eq_true] at c; cases c
  by_cases q : 400 < L.length
  · rw [decide_eq_true q] at fin ⊢
    simp [F__law_refused_1, RF, dfS, startD, sCons, sNil, sSetN, sSetB, sOwnN, sOwnB, sIf, sRetB, sRetNone, sRetO, sFor, sAsgN, sAsgB, sAsgF, gTupL_l, sParN, sParB, slotR, lfR, sExpr, sAppN, sAppB, augI, gTup_t, gCons_c, gCons_n, gNil_n, gNil_c, gN, dVar, dC, vR, rV, rBin, cBin, bV, bTru, bNot, bAnd, bOr, vAnd, vOr, vNot, rIf, vIf, dNeg, dTup, dLst, dTupS, dLstS, aNil, aCons, aStar, rCall, dCall, dCallK, pick, on1, on2, dLen, i1, i2, dInt, dIsi, dTru, dFld, rCut, rRev, dRevS, oNone, oSome, dCut, iOf, iArg, zip2_e, enu1_e, rng1, rng2, rComp, bYes, cChain, cChain3, dInB, inD, D.fl, toV, L2.eqV, dAdd, dSub, dMul, dMulA, dFd, dMd, dPw, iI, iC, frz, viewN, viewB, wipeV, toSl, D.items, vDr, iDr, sDrPut, rDrNext, vDct, sNever, L2.atI, dIx, dList, dTuple, dEq, dNe, D.okd, okdL, D.eqb, D.py, pyL, dSum, dSumA, dSorted, dAll, dAny, dNotB, dIsB, dIsN, dNotN, D.isNon, sDrPull, sRaise0, vDct1, dCaught, dfL, dNeS, sRaise1, dXf, dmS, jCons, jFlds, iCons, iNil, putD, sParsN, sParsB, rsN, putK, lfRs, lfR, dCallV, sCaughtApp, sFz, rLRg1, rLRg2, dLRg, gTupL_l, vDctI, rComp2, eqv_ii, eqv_tt, eqv_ll, eqvA_c, eqvA_n]
    refine point_sum_no h hL ho _ _ (fun z => absurd z (by omega)) fun _ => ⟨by decide, word_many _ _ ⟨⟨by decide +kernel, by decide +kernel⟩, fun c => ne2 c, fun _ => fin⟩⟩
  · rw [decide_eq_false q] at fin ⊢
    simp [F__law_refused_1, RF, dfS, startD, sCons, sNil, sSetN, sSetB, sOwnN, sOwnB, sIf, sRetB, sRetNone, sRetO, sFor, sAsgN, sAsgB, sAsgF, gTupL_l, sParN, sParB, slotR, lfR, sExpr, sAppN, sAppB, augI, gTup_t, gCons_c, gCons_n, gNil_n, gNil_c, gN, dVar, dC, vR, rV, rBin, cBin, bV, bTru, bNot, bAnd, bOr, vAnd, vOr, vNot, rIf, vIf, dNeg, dTup, dLst, dTupS, dLstS, aNil, aCons, aStar, rCall, dCall, dCallK, pick, on1, on2, dLen, i1, i2, dInt, dIsi, dTru, dFld, rCut, rRev, dRevS, oNone, oSome, dCut, iOf, iArg, zip2_e, enu1_e, rng1, rng2, rComp, bYes, cChain, cChain3, dInB, inD, D.fl, toV, L2.eqV, dAdd, dSub, dMul, dMulA, dFd, dMd, dPw, iI, iC, frz, viewN, viewB, wipeV, toSl, D.items, vDr, iDr, sDrPut, rDrNext, vDct, sNever, L2.atI, dIx, dList, dTuple, dEq, dNe, D.okd, okdL, D.eqb, D.py, pyL, dSum, dSumA, dSorted, dAll, dAny, dNotB, dIsB, dIsN, dNotN, D.isNon, sDrPull, sRaise0, vDct1, dCaught, dfL, dNeS, sRaise1, dXf, dmS, jCons, jFlds, iCons, iNil, putD, sParsN, sParsB, rsN, putK, lfRs, lfR, dCallV, sCaughtApp, sFz, rLRg1, rLRg2, dLRg, gTupL_l, vDctI, rComp2, eqv_ii, eqv_tt, eqv_ll, eqvA_c, eqvA_n]
    refine point_sum_no h hL ho _ _ (fun _ => ⟨by decide, word_point _ _ ⟨⟨by decide +kernel, by decide +kernel⟩, fun c => ne c, fun _ => fin⟩⟩) fun z => absurd z q
theorem r0 (tk : List (Str × Addr)) (p : Q2) (h : PO p) (L : List Int) (hL : Leg L p.1 p.2) (x5 x6 x7 x8 x9 : Option Slot) (o : D) (ho : NZ p o) (κ : Ks) (E : Exn → Prop) (hk : κ.rt (.val (.bl true))) : F__law_refused_0 tk (RF p (decide (400 < L.length)) x5 x6 x7 x8 x9 o) κ E := by
  have fin := r1 tk p h L hL x5 x6 x7 x8 x9 o ho κ E hk
  simp [F__law_refused_0, RF, dfS, startD, sCons, sNil, sSetN, sSetB, sOwnN, sOwnB, sIf, sRetB, sRetNone, sRetO, sFor, sAsgN, sAsgB, sAsgF, gTupL_l, sParN, sParB, slotR, lfR, sExpr, sAppN, sAppB, augI, gTup_t, gCons_c, gCons_n, gNil_n, gNil_c, gN, dVar, dC, vR, rV, rBin, cBin, bV, bTru, bNot, bAnd, bOr, vAnd, vOr, vNot, rIf, vIf, dNeg, dTup, dLst, dTupS, dLstS, aNil, aCons, aStar, rCall, dCall, dCallK, pick, on1, on2, dLen, i1, i2, dInt, dIsi, dTru, dFld, rCut, rRev, dRevS, oNone, oSome, dCut, iOf, iArg, zip2_e, enu1_e, rng1, rng2, rComp, bYes, cChain, cChain3, dInB, inD, D.fl, toV, L2.eqV, dAdd, dSub, dMul, dMulA, dFd, dMd, dPw, iI, iC, frz, viewN, viewB, wipeV, toSl, D.items, vDr, iDr, sDrPut, rDrNext, vDct, sNever, L2.atI, dIx, dList, dTuple, dEq, dNe, D.okd, okdL, D.eqb, D.py, pyL, dSum, dSumA, dSorted, dAll, dAny, dNotB, dIsB, dIsN, dNotN, D.isNon, sDrPull, sRaise0, vDct1, dCaught, dfL, dNeS, sRaise1, dXf, dmS, jCons, jFlds, iCons, iNil, putD, sParsN, sParsB, rsN, putK, lfRs, lfR, dCallV, sCaughtApp, sFz, rLRg1, rLRg2, dLRg, gTupL_l, vDctI, rComp2, eqv_ii, eqv_tt, eqv_ll, eqvA_c, eqvA_n]
  refine is_point_no h ho _ _ ?_
  refine sp_says false false _ _ ⟨fun c => absurd c (by decide), fun _ => is_point_no h ho _ _ (sp_says false false _ _ ⟨fun c => absurd c (by decide), fun _ => fin⟩)⟩
theorem mod_no {a x : Int} (h1 : -a < x) (h2 : x < a) (h0 : x ≠ 0) : ¬ a ∣ x := fun ⟨c, hc⟩ => by
  rcases Int.lt_trichotomy c 0 with q | q | q
  · have : a * c ≤ a * -1 := Int.mul_le_mul_of_nonneg_left (by omega) (by omega)
    omega
  · subst q; rw [Int.mul_zero] at hc; exact h0 hc
  · have : a * 1 ≤ a * c := Int.mul_le_mul_of_nonneg_left (by omega) (by omega)
    omega
theorem sp_refused (p : Q2) (h : PO p) (L : List Int) (hL : Leg L p.1 p.2) (k : Rv → Prop) (E : Exn → Prop) (hk : k (.val (.bl true))) : F__law_refused [.drw, dp p, .bl (decide (400 < L.length))] k E := by
  have hz := szl
  have h1 := h.1
  have a0 : 0 < p.2 := by omega
  have w2 : ∀ q : Int, q.natAbs < 2 ^ 200 → q.natAbs < 2 ^ 2000 := fun q h => Nat.lt_trans h (by decide)
  have w1 : ∀ q : Int, q.natAbs < 2 ^ 200 → q.natAbs < 2 ^ 1000 := fun q h => Nat.lt_trans h (by decide)
  rw [F__law_refused_cut]
  simp [dp, dfS, startD, sCons, sNil, sSetN, sSetB, sOwnN, sOwnB, sIf, sRetB, sRetNone, sRetO, sFor, sAsgN, sAsgB, sAsgF, gTupL_l, sParN, sParB, slotR, lfR, sExpr, sAppN, sAppB, augI, gTup_t, gCons_c, gCons_n, gNil_n, gNil_c, gN, dVar, dC, vR, rV, rBin, cBin, bV, bTru, bNot, bAnd, bOr, vAnd, vOr, vNot, rIf, vIf, dNeg, dTup, dLst, dTupS, dLstS, aNil, aCons, aStar, rCall, dCall, dCallK, pick, on1, on2, dLen, i1, i2, dInt, dIsi, dTru, dFld, rCut, rRev, dRevS, oNone, oSome, dCut, iOf, iArg, zip2_e, enu1_e, rng1, rng2, rComp, bYes, cChain, cChain3, dInB, inD, D.fl, toV, L2.eqV, dAdd, dSub, dMul, dMulA, dFd, dMd, dPw, iI, iC, frz, viewN, viewB, wipeV, toSl, D.items, vDr, iDr, sDrPut, rDrNext, vDct, sNever, L2.atI, dIx, dList, dTuple, dEq, dNe, D.okd, okdL, D.eqb, D.py, pyL, dSum, dSumA, dSorted, dAll, dAny, dNotB, dIsB, dIsN, dNotN, D.isNon, sDrPull, sRaise0, vDct1, dCaught, dfL, dNeS, sRaise1, dXf, dmS, jCons, jFlds, iCons, iNil, putD, sParsN, sParsB, rsN, putK, lfRs, lfR, dCallV, sCaughtApp, sFz, rLRg1, rLRg2, dLRg, gTupL_l, vDctI, rComp2, eqv_ii, eqv_tt, eqv_ll, eqvA_c, eqvA_n]
  intro tk mn
  clear mn
  refine ⟨mulokL _ _ (by decide), ?_⟩
  refine sp_take _ _ _ (by omega) (lg (by omega)) fun i hi0 hi1 => ?_
  simp [dfS, startD, sCons, sNil, sSetN, sSetB, sOwnN, sOwnB, sIf, sRetB, sRetNone, sRetO, sFor, sAsgN, sAsgB, sAsgF, gTupL_l, sParN, sParB, slotR, lfR, sExpr, sAppN, sAppB, augI, gTup_t, gCons_c, gCons_n, gNil_n, gNil_c, gN, dVar, dC, vR, rV, rBin, cBin, bV, bTru, bNot, bAnd, bOr, vAnd, vOr, vNot, rIf, vIf, dNeg, dTup, dLst, dTupS, dLstS, aNil, aCons, aStar, rCall, dCall, dCallK, pick, on1, on2, dLen, i1, i2, dInt, dIsi, dTru, dFld, rCut, rRev, dRevS, oNone, oSome, dCut, iOf, iArg, zip2_e, enu1_e, rng1, rng2, rComp, bYes, cChain, cChain3, dInB, inD, D.fl, toV, L2.eqV, dAdd, dSub, dMul, dMulA, dFd, dMd, dPw, iI, iC, frz, viewN, viewB, wipeV, toSl, D.items, vDr, iDr, sDrPut, rDrNext, vDct, sNever, L2.atI, dIx, dList, dTuple, dEq, dNe, D.okd, okdL, D.eqb, D.py, pyL, dSum, dSumA, dSorted, dAll, dAny, dNotB, dIsB, dIsN, dNotN, D.isNon, sDrPull, sRaise0, vDct1, dCaught, dfL, dNeS, sRaise1, dXf, dmS, jCons, jFlds, iCons, iNil, putD, sParsN, sParsB, rsN, putK, lfRs, lfR, dCallV, sCaughtApp, sFz, rLRg1, rLRg2, dLRg, gTupL_l, vDctI, rComp2, eqv_ii, eqv_tt, eqv_ll, eqvA_c, eqvA_n]
  rw [fmod_pos _ a0]
  have j0 := Int.emod_nonneg (p.1 * i) (show p.2 ≠ 0 by omega)
  have j1 := Int.emod_lt_of_pos (p.1 * i) a0
  have jd : p.2 ∣ p.1 * i % p.2 - p.1 * i := by
    have e := Int.emod_add_mul_ediv (p.1 * i) p.2
    rw [show p.1 * i % p.2 - p.1 * i = p.2 * -(p.1 * i / p.2) by rw [Int.mul_neg]; omega]
    exact Int.dvd_mul_right _ _
  revert j0 j1 jd
  generalize p.1 * i % p.2 = j
  intro j0 j1 jd
  refine ⟨mulokW _ _ (w2 _ (by omega)) (w2 _ (by omega)), by omega, ?_⟩
  have nzb : ∀ d ∈ [D.non, D.int 5, D.tup [D.int 0, D.int 0], D.lst [D.int 0, D.int p.2], D.tup [D.int i, D.int (-p.2 - j)], D.tup [D.int (-p.2), D.int 0], D.tup [D.int i], D.tup [D.int i, D.int j, D.int 0], D.tup [D.bl true, D.int (j + p.2)], D.tup [D.int 0, D.bl true], D.str "01"], NZ p d := fun d hd => by
    simp only [List.mem_cons, List.mem_nil_iff, or_false] at hd
    rcases hd with rfl | rfl | rfl | rfl | rfl | rfl | rfl | rfl | rfl | rfl | rfl
    · exact nz_no p _ "NoneType" rfl rfl
    · exact nz_no p _ "int" rfl rfl
    · exact nz_dp h (0, 0) (w1 _ (by decide)) fun q => absurd q.p (by decide)
    · exact nz_no p _ "list" rfl rfl
    · exact nz_dp h (i, -p.2 - j) (w1 _ (by simp only; omega)) fun q => by
        have := q.j
        simp only at this
        omega
    · exact nz_dp h (-p.2, 0) (w1 _ (by simp only; omega)) fun q => by
        have := q.i
        simp only at this
        omega
    · exact nz_len p _ (by simp)
    · exact nz_len p _ (by simp)
    · exact nz_1 p _ _ "bool" rfl rfl
    · exact nz_2 p _ _ "bool" rfl rfl
    · exact nz_no p _ "str" rfl rfl
  have off : ∀ (u v e : Int), 0 ≤ u → u ≤ 3 * p.2 → v - p.1 * u = (j - p.1 * i) + e → -p.2 < e → e < p.2 → e ≠ 0 → NZ p (.tup [.int u, .int v]) := fun u v e u0 u1 hv e1 e2 e0 => nz_dp h (u, v) (w1 _ (by simp only; omega)) fun q => by
    refine mod_no e1 e2 e0 ?_
    have d := q.d
    simp only at d
    rw [hv] at d
    have := Int.dvd_sub d jd
    rwa [show j - p.1 * i + e - (j - p.1 * i) = e by omega] at this
  have pi : p.1 * (i + 1) = p.1 * i + p.1 := by rw [Int.mul_add, Int.mul_one]
  have offA : ∀ (v e : Int), 1 < p.2 → v - p.1 * (i + 1) = (j - p.1 * i) + e + p.2 → -p.2 < e → e < p.2 → e ≠ 0 → NZ p (.tup [.int (i + 1), .int v]) := fun v e a1 hv e1 e2 e0 => nz_dp h (i + 1, v) (w1 _ (by simp only; omega)) fun q => by
    refine mod_no e1 e2 e0 ?_
    have d := q.d
    simp only at d
    rw [hv] at d
    have := Int.dvd_sub (Int.dvd_sub d jd) (Int.dvd_refl p.2)
    rwa [show j - p.1 * i + e + p.2 - (j - p.1 * i) - p.2 = e by omega] at this
  have offB : 1 < p.2 → NZ p (.tup [.int i, .int (j + p.2 + 1)]) := fun a1 => nz_dp h (i, j + p.2 + 1) (w1 _ (by simp only; omega)) fun q => by
    refine mod_no (a := p.2) (x := 1) (by omega) a1 (by decide) ?_
    have d := q.d
    simp only at d
    have := Int.dvd_sub (Int.dvd_sub d jd) (Int.dvd_refl p.2)
    rwa [show j + p.2 + 1 - p.1 * i - (j - p.1 * i) - p.2 = 1 by omega] at this
  refine ⟨fun a1 => ⟨fun ww => ⟨by omega, sp_pick _ _ _ (by simp) (by simp) fun d hd => ?_⟩, fun ww => ⟨by omega, sp_pick _ _ _ (by simp) (by simp) fun d hd => ?_⟩⟩, fun a1 => ⟨by omega, sp_pick _ _ _ (by simp) (by simp) fun d hd => ?_⟩⟩
  · have nz : NZ p d := by
      rcases List.mem_append.mp (show d ∈ [D.non, D.int 5, D.tup [D.int 0, D.int 0], D.lst [D.int 0, D.int p.2], D.tup [D.int i, D.int (-p.2 - j)], D.tup [D.int (-p.2), D.int 0], D.tup [D.int i], D.tup [D.int i, D.int j, D.int 0], D.tup [D.bl true, D.int (j + p.2)], D.tup [D.int 0, D.bl true], D.str "01"] ++ [D.tup [D.int i, D.int (j + p.2 + 1)], D.tup [D.int (i + 1), D.int (j + p.2 + 1)]] from hd) with q | q
      · exact nzb d q
      · simp only [List.mem_cons, List.mem_nil_iff, or_false] at q
        rcases q with rfl | rfl
        · exact offB a1
        · exact offA _ (1 - p.1) a1 (by rw [pi]; omega) (by omega) (by omega) (by omega)
    exact r0 tk p h L hL _ _ _ _ _ d nz _ E hk
  · have nz : NZ p d := by
      rcases List.mem_append.mp (show d ∈ [D.non, D.int 5, D.tup [D.int 0, D.int 0], D.lst [D.int 0, D.int p.2], D.tup [D.int i, D.int (-p.2 - j)], D.tup [D.int (-p.2), D.int 0], D.tup [D.int i], D.tup [D.int i, D.int j, D.int 0], D.tup [D.bl true, D.int (j + p.2)], D.tup [D.int 0, D.bl true], D.str "01"] ++ [D.tup [D.int i, D.int (j + p.2 + 1)], D.tup [D.int (i + 1), D.int (j + p.2)]] from hd) with q | q
      · exact nzb d q
      · simp only [List.mem_cons, List.mem_nil_iff, or_false] at q
        rcases q with rfl | rfl
        · exact offB a1
        · exact offA _ (-1) a1 (by rw [pi]; omega) (by omega) (by omega) (by omega)
    exact r0 tk p h L hL _ _ _ _ _ d nz _ E hk
  · exact r0 tk p h L hL _ _ _ _ _ d (nzb d hd) _ E hk
end K12

set_option Elab.async false
set_option linter.all false
set_option maxRecDepth 100000
set_option maxHeartbeats 4000000
namespace K12
open PySem Dv
def F_bt (tk : List (Str × Addr)) : DS :=
  (sCons (sSetN 3 (vR (dCall (aCons (vR (rBin (dVar 4) (dC (.int 0)) dIx)) (aCons (vR (rBin (dVar 4) (dC (.int 1)) dIx)) (aCons (dC (.int 400)) aNil))) F__law_leg)))
  (sCons (sIf (cBin (dVar 3) (dC .non) dIsN) (sCons (sIf (cBin (vR (dCall (aCons (vR (dCaught Xs tk [(4, (vR (dCall (aCons (dVar 4) aNil) F_leg_points)))] (dC (.lam 4 tk)))) aNil) F__law_word)) (dC (.str "many 400")) dNe) (sCons (sRetB (rV (dC (.bl false))))
  sNil) sNil)
  (sCons (sIf (cBin (vR (dCall (aCons (vR (dCaught Xs tk [(5, (vR (dCall (aCons (dVar 4) (aCons (dTup (aCons (dC (.int 0)) (aCons (vR (rBin (dVar 4) (dC (.int 1)) dIx)) aNil))) aNil)) F_point_sum)))] (dC (.lam 5 tk)))) aNil) F__law_word)) (dC (.str "many 400")) dNe) (sCons (sRetB (rV (dC (.bl false))))
  sNil) sNil)
  sNil)) (sCons (sIf (bOr (bNot (bTru (vR (dCall (aCons (dVar 4) (aCons (dVar 3) aNil)) F__law_list_right)))) (bNot (bTru (vR (dCall (aCons (dVar 1) (aCons (dVar 4) (aCons (dVar 3) aNil))) F__law_sums_right))))) (sCons (sRetB (rV (dC (.bl false))))
  sNil) sNil)
  sNil))
  (sCons (sIf (bNot (bTru (vR (dCall (aCons (dVar 1) (aCons (dVar 4) (aCons (bV (cBin (dVar 3) (dC .non) dIsN)) aNil))) F__law_refused)))) (sCons (sRetB (rV (dC (.bl false))))
  sNil) sNil)
  sNil)))
theorem b_law_cut : b_law = fun tk => (sCons (sFor (iArg (aCons (vR (rBin (dC (.int 2)) (vR (rCall (aCons (vR (rCall (aCons (dVar 0) aNil) (on1 dLen))) (aCons (dC (.int 6)) aNil)) (on2 (i2 iMin)))) dAdd)) aNil) rng1) (gN 2) (sCons (sSetN 4 (vR (dCall (aCons (dVar 1) aNil) F__law_some_pair)))
  (sCons (sIf (cBin (vR (rBin (dVar 4) (dC (.int 1)) dIx)) (vR (rBin (dC (.int 10)) (dC (.int 30)) dPw)) dGt) (sCons (sSetN 4 (dTup (aCons (dC (.int 3)) (aCons (dC (.int 7)) aNil))))
  sNil) sNil)
  (F_bt tk))))
  (sCons (sRetB (rV (vAnd (bV (cBin (vR (rCall (aCons (vR (dCall (aCons (dTup (aCons (dC (.int 3)) (aCons (dC (.int 7)) aNil))) aNil) F_leg_points)) aNil) (on1 dRepr))) (vR (rCall (aCons (vR (dLst (aCons (dTup (aCons (dC (.int 0)) (aCons (dC (.int 7)) aNil))) (aCons (dTup (aCons (dC (.int 1)) (aCons (dC (.int 3)) aNil))) (aCons (dTup (aCons (dC (.int 3)) (aCons (dC (.int 2)) aNil))) (aCons (dTup (aCons (dC (.int 5)) (aCons (dC (.int 1)) aNil))) (aCons (dTup (aCons (dC (.int 7)) (aCons (dC (.int 0)) aNil))) aNil))))))) aNil) (on1 dRepr))) dEqS)) (bV (cBin (vR (dCall (aCons (dTup (aCons (dC (.int 3)) (aCons (dC (.int 7)) aNil))) (aCons (dTup (aCons (dC (.int 4)) (aCons (dC (.int 5)) aNil))) aNil)) F_point_sum)) (dTup (aCons (dC (.int 1)) (aCons (dC (.int 1)) (aCons (dC (.int 1)) aNil)))) dEq)))))
  sNil)) := rfl
abbrev SL (ns : List Int) (x2 x3 x4 : Option Slot) : Sl := [some (.val (.ro (ns.map .int))), some (.val .drw), x2, x3, x4]
theorem point_sum_many {p : Q2} (h : PO p) {L : List Int} (hL : Leg L p.1 p.2) (hl : 400 < L.length) (d : D) (k : Rv → Prop) (E : Exn → Prop) (hE : E many) : F_point_sum [dp p, d] k E := by
  simp [F_point_sum, dfS, startD, sCons, sNil, sSetN, sSetB, sOwnN, sOwnB, sIf, sRetB, sRetNone, sRetO, sFor, sAsgN, sAsgB, sAsgF, gTupL_l, sParN, sParB, slotR, lfR, sExpr, sAppN, sAppB, augI, gTup_t, gCons_c, gCons_n, gNil_n, gNil_c, gN, dVar, dC, vR, rV, rBin, cBin, bV, bTru, bNot, bAnd, bOr, vAnd, vOr, vNot, rIf, vIf, dNeg, dTup, dLst, dTupS, dLstS, aNil, aCons, aStar, rCall, dCall, dCallK, pick, on1, on2, dLen, i1, i2, dInt, dIsi, dTru, dFld, rCut, rRev, dRevS, oNone, oSome, dCut, iOf, iArg, zip2_e, enu1_e, rng1, rng2, rComp, bYes, cChain, cChain3, dInB, inD, D.fl, toV, L2.eqV, dAdd, dSub, dMul, dMulA, dFd, dMd, dPw, iI, iC, frz, viewN, viewB, wipeV, toSl, D.items, vDr, iDr, sDrPut, rDrNext, vDct, sNever, L2.atI, dIx, dList, dTuple, dEq, dNe, D.okd, okdL, D.eqb, PyData.eqv, D.py, pyL, dSum, dSumA, dSorted, dAll, dAny, L2.ixN, dNotB, dIsB, dIsN, dNotN, D.isNon, sDrPull, sRaise0, vDct1, dCaught, dfL, dNeS, sRaise1, dXf, dEqO, dmS, jCons, jFlds, iCons, iNil, putD, sParsN, sParsB, rsN, putK, lfRs, lfR, dCallV, sCaughtApp, dNeO, sFz, rLRg1, rLRg2, dLRg, gTupL_l, vDctI, rComp2]
  refine sp_need_pair p h _ _ ?_
  exact sp_points_of p h L hL _ _ (fun q => absurd q (by omega)) fun _ => hE
theorem bt (tk : List (Str × Addr)) (ns : List Int) (p : Q2) (h : PO p) (x2 x3 : Option Slot) (κ : Ks) (hk : ∀ y2 y3 y4, κ.nx (SL ns y2 y3 y4)) : F_bt tk (SL ns x2 x3 (some (.val (dp p)))) κ (fun _ => False) := by
  have h1 := h.1
  obtain ⟨L, hL⟩ := leg_ex p.1.toNat (w := p.1) (a := p.2) h1.1 (Nat.le_refl _)
  have pk := h.pk hL
  have ne2 : ∀ {P : Prop}, PyData.eqv (.str "many 400") (.str "many 400") = false → P := fun c => by
    rw [eqv_ss, beq_self_eq_true] at c; cases c
  simp [F_bt, SL, dp, ix20, ix21, dfS, startD, sCons, sNil, sSetN, sSetB, sOwnN, sOwnB, sIf, sRetB, sRetNone, sRetO, sFor, sAsgN, sAsgB, sAsgF, gTupL_l, sParN, sParB, slotR, lfR, sExpr, sAppN, sAppB, augI, gTup_t, gCons_c, gCons_n, gNil_n, gNil_c, gN, dVar, dC, vR, rV, rBin, cBin, bV, bTru, bNot, bAnd, bOr, vAnd, vOr, vNot, rIf, vIf, dNeg, dTup, dLst, dTupS, dLstS, aNil, aCons, aStar, rCall, dCall, dCallK, pick, on1, on2, dLen, i1, i2, dInt, dIsi, dTru, dFld, rCut, rRev, dRevS, oNone, oSome, dCut, iOf, iArg, zip2_e, enu1_e, rng1, rng2, rComp, bYes, cChain, cChain3, dInB, inD, D.fl, toV, L2.eqV, dAdd, dSub, dMul, dMulA, dFd, dMd, dPw, iI, iC, frz, viewN, viewB, wipeV, toSl, D.items, vDr, iDr, sDrPut, rDrNext, vDct, sNever, L2.atI, dIx, dList, dTuple, dEq, dNe, D.okd, okdL, D.eqb, D.py, pyL, dSum, dSumA, dSorted, dAll, dAny, dNotB, dIsB, dIsN, dNotN, D.isNon, sDrPull, sRaise0, vDct1, dCaught, dfL, dNeS, sRaise1, dXf, dmS, jCons, jFlds, iCons, iNil, putD, sParsN, sParsB, rsN, putK, lfRs, lfR, dCallV, sCaughtApp, sFz, rLRg1, rLRg2, dLRg, gTupL_l, vDctI, rComp2, eqv_ii, eqv_tt, eqv_ll, eqvA_c, eqvA_n]
  refine sp_law_leg p.1 p.2 h1.1 h1.2.1 h.b L hL _ _ (fun hl => ?_) fun hl => ?_
  · simp [dfS, startD, sCons, sNil, sSetN, sSetB, sOwnN, sOwnB, sIf, sRetB, sRetNone, sRetO, sFor, sAsgN, sAsgB, sAsgF, gTupL_l, sParN, sParB, slotR, lfR, sExpr, sAppN, sAppB, augI, gTup_t, gCons_c, gCons_n, gNil_n, gNil_c, gN, dVar, dC, vR, rV, rBin, cBin, bV, bTru, bNot, bAnd, bOr, vAnd, vOr, vNot, rIf, vIf, dNeg, dTup, dLst, dTupS, dLstS, aNil, aCons, aStar, rCall, dCall, dCallK, pick, on1, on2, dLen, i1, i2, dInt, dIsi, dTru, dFld, rCut, rRev, dRevS, oNone, oSome, dCut, iOf, iArg, zip2_e, enu1_e, rng1, rng2, rComp, bYes, cChain, cChain3, dInB, inD, D.fl, toV, L2.eqV, dAdd, dSub, dMul, dMulA, dFd, dMd, dPw, iI, iC, frz, viewN, viewB, wipeV, toSl, D.items, vDr, iDr, sDrPut, rDrNext, vDct, sNever, L2.atI, dIx, dList, dTuple, dEq, dNe, D.okd, okdL, D.eqb, D.py, pyL, dSum, dSumA, dSorted, dAll, dAny, dNotB, dIsB, dIsN, dNotN, D.isNon, sDrPull, sRaise0, vDct1, dCaught, dfL, dNeS, sRaise1, dXf, dmS, jCons, jFlds, iCons, iNil, putD, sParsN, sParsB, rsN, putK, lfRs, lfR, dCallV, sCaughtApp, sFz, rLRg1, rLRg2, dLRg, gTupL_l, vDctI, rComp2, eqv_ii, eqv_tt, eqv_ll, eqvA_c, eqvA_n]
    refine sp_list_right p h L hL hl _ _ ?_
    simp [dfS, startD, sCons, sNil, sSetN, sSetB, sOwnN, sOwnB, sIf, sRetB, sRetNone, sRetO, sFor, sAsgN, sAsgB, sAsgF, gTupL_l, sParN, sParB, slotR, lfR, sExpr, sAppN, sAppB, augI, gTup_t, gCons_c, gCons_n, gNil_n, gNil_c, gN, dVar, dC, vR, rV, rBin, cBin, bV, bTru, bNot, bAnd, bOr, vAnd, vOr, vNot, rIf, vIf, dNeg, dTup, dLst, dTupS, dLstS, aNil, aCons, aStar, rCall, dCall, dCallK, pick, on1, on2, dLen, i1, i2, dInt, dIsi, dTru, dFld, rCut, rRev, dRevS, oNone, oSome, dCut, iOf, iArg, zip2_e, enu1_e, rng1, rng2, rComp, bYes, cChain, cChain3, dInB, inD, D.fl, toV, L2.eqV, dAdd, dSub, dMul, dMulA, dFd, dMd, dPw, iI, iC, frz, viewN, viewB, wipeV, toSl, D.items, vDr, iDr, sDrPut, rDrNext, vDct, sNever, L2.atI, dIx, dList, dTuple, dEq, dNe, D.okd, okdL, D.eqb, D.py, pyL, dSum, dSumA, dSorted, dAll, dAny, dNotB, dIsB, dIsN, dNotN, D.isNon, sDrPull, sRaise0, vDct1, dCaught, dfL, dNeS, sRaise1, dXf, dmS, jCons, jFlds, iCons, iNil, putD, sParsN, sParsB, rsN, putK, lfRs, lfR, dCallV, sCaughtApp, sFz, rLRg1, rLRg2, dLRg, gTupL_l, vDctI, rComp2, eqv_ii, eqv_tt, eqv_ll, eqvA_c, eqvA_n]
    refine sp_sums_right p h L hL hl _ _ ?_
    simp [dfS, startD, sCons, sNil, sSetN, sSetB, sOwnN, sOwnB, sIf, sRetB, sRetNone, sRetO, sFor, sAsgN, sAsgB, sAsgF, gTupL_l, sParN, sParB, slotR, lfR, sExpr, sAppN, sAppB, augI, gTup_t, gCons_c, gCons_n, gNil_n, gNil_c, gN, dVar, dC, vR, rV, rBin, cBin, bV, bTru, bNot, bAnd, bOr, vAnd, vOr, vNot, rIf, vIf, dNeg, dTup, dLst, dTupS, dLstS, aNil, aCons, aStar, rCall, dCall, dCallK, pick, on1, on2, dLen, i1, i2, dInt, dIsi, dTru, dFld, rCut, rRev, dRevS, oNone, oSome, dCut, iOf, iArg, zip2_e, enu1_e, rng1, rng2, rComp, bYes, cChain, cChain3, dInB, inD, D.fl, toV, L2.eqV, dAdd, dSub, dMul, dMulA, dFd, dMd, dPw, iI, iC, frz, viewN, viewB, wipeV, toSl, D.items, vDr, iDr, sDrPut, rDrNext, vDct, sNever, L2.atI, dIx, dList, dTuple, dEq, dNe, D.okd, okdL, D.eqb, D.py, pyL, dSum, dSumA, dSorted, dAll, dAny, dNotB, dIsB, dIsN, dNotN, D.isNon, sDrPull, sRaise0, vDct1, dCaught, dfL, dNeS, sRaise1, dXf, dmS, jCons, jFlds, iCons, iNil, putD, sParsN, sParsB, rsN, putK, lfRs, lfR, dCallV, sCaughtApp, sFz, rLRg1, rLRg2, dLRg, gTupL_l, vDctI, rComp2, eqv_ii, eqv_tt, eqv_ll, eqvA_c, eqvA_n]
    have rf := fun k E hk => sp_refused p h L hL k E hk
    rw [decide_eq_false (show ¬ 400 < L.length by omega)] at rf
    refine rf _ _ ?_
    simp [dfS, startD, sCons, sNil, sSetN, sSetB, sOwnN, sOwnB, sIf, sRetB, sRetNone, sRetO, sFor, sAsgN, sAsgB, sAsgF, gTupL_l, sParN, sParB, slotR, lfR, sExpr, sAppN, sAppB, augI, gTup_t, gCons_c, gCons_n, gNil_n, gNil_c, gN, dVar, dC, vR, rV, rBin, cBin, bV, bTru, bNot, bAnd, bOr, vAnd, vOr, vNot, rIf, vIf, dNeg, dTup, dLst, dTupS, dLstS, aNil, aCons, aStar, rCall, dCall, dCallK, pick, on1, on2, dLen, i1, i2, dInt, dIsi, dTru, dFld, rCut, rRev, dRevS, oNone, oSome, dCut, iOf, iArg, zip2_e, enu1_e, rng1, rng2, rComp, bYes, cChain, cChain3, dInB, inD, D.fl, toV, L2.eqV, dAdd, dSub, dMul, dMulA, dFd, dMd, dPw, iI, iC, frz, viewN, viewB, wipeV, toSl, D.items, vDr, iDr, sDrPut, rDrNext, vDct, sNever, L2.atI, dIx, dList, dTuple, dEq, dNe, D.okd, okdL, D.eqb, D.py, pyL, dSum, dSumA, dSorted, dAll, dAny, dNotB, dIsB, dIsN, dNotN, D.isNon, sDrPull, sRaise0, vDct1, dCaught, dfL, dNeS, sRaise1, dXf, dmS, jCons, jFlds, iCons, iNil, putD, sParsN, sParsB, rsN, putK, lfRs, lfR, dCallV, sCaughtApp, sFz, rLRg1, rLRg2, dLRg, gTupL_l, vDctI, rComp2, eqv_ii, eqv_tt, eqv_ll, eqvA_c, eqvA_n]
    exact hk _ _ _
  · simp [dfS, startD, sCons, sNil, sSetN, sSetB, sOwnN, sOwnB, sIf, sRetB, sRetNone, sRetO, sFor, sAsgN, sAsgB, sAsgF, gTupL_l, sParN, sParB, slotR, lfR, sExpr, sAppN, sAppB, augI, gTup_t, gCons_c, gCons_n, gNil_n, gNil_c, gN, dVar, dC, vR, rV, rBin, cBin, bV, bTru, bNot, bAnd, bOr, vAnd, vOr, vNot, rIf, vIf, dNeg, dTup, dLst, dTupS, dLstS, aNil, aCons, aStar, rCall, dCall, dCallK, pick, on1, on2, dLen, i1, i2, dInt, dIsi, dTru, dFld, rCut, rRev, dRevS, oNone, oSome, dCut, iOf, iArg, zip2_e, enu1_e, rng1, rng2, rComp, bYes, cChain, cChain3, dInB, inD, D.fl, toV, L2.eqV, dAdd, dSub, dMul, dMulA, dFd, dMd, dPw, iI, iC, frz, viewN, viewB, wipeV, toSl, D.items, vDr, iDr, sDrPut, rDrNext, vDct, sNever, L2.atI, dIx, dList, dTuple, dEq, dNe, D.okd, okdL, D.eqb, D.py, pyL, dSum, dSumA, dSorted, dAll, dAny, dNotB, dIsB, dIsN, dNotN, D.isNon, sDrPull, sRaise0, vDct1, dCaught, dfL, dNeS, sRaise1, dXf, dmS, jCons, jFlds, iCons, iNil, putD, sParsN, sParsB, rsN, putK, lfRs, lfR, dCallV, sCaughtApp, sFz, rLRg1, rLRg2, dLRg, gTupL_l, vDctI, rComp2, eqv_ii, eqv_tt, eqv_ll, eqvA_c, eqvA_n]
    refine sp_leg_points p h L hL _ _ (fun q => absurd q (by omega)) fun _ => ?_
    refine ⟨by decide, word_many _ _ ⟨⟨by decide +kernel, by decide +kernel⟩, fun c => ne2 c, fun _ => ?_⟩⟩
    refine point_sum_many h hL hl (.tup [.int 0, .int p.2]) _ _ ?_
    refine ⟨by decide, word_many _ _ ⟨⟨by decide +kernel, by decide +kernel⟩, fun c => ne2 c, fun _ => ?_⟩⟩
    have rf := fun k E hk => sp_refused p h L hL k E hk
    rw [decide_eq_true (show 400 < L.length by omega)] at rf
    refine rf _ _ ?_
    exact ⟨fun q => absurd q (by decide), fun _ => hk _ _ _⟩
theorem law_pure : LawOk := by
  intro ns hl tk mn
  clear mn
  have hz := szl
  have hi : 0 ≤ iMin (ns.length : Int) 6 ∧ iMin (ns.length : Int) 6 ≤ 6 := by
    unfold iMin; split <;> omega
  have c30 : L2.CPow 10 30 := ⟨by decide, by decide, by decide⟩
  rw [b_law_cut]
  simp [dfS, startD, sCons, sNil, sSetN, sSetB, sOwnN, sOwnB, sIf, sRetB, sRetNone, sRetO, sFor, sAsgN, sAsgB, sAsgF, gTupL_l, sParN, sParB, slotR, lfR, sExpr, sAppN, sAppB, augI, gTup_t, gCons_c, gCons_n, gNil_n, gNil_c, gN, dVar, dC, vR, rV, rBin, cBin, bV, bTru, bNot, bAnd, bOr, vAnd, vOr, vNot, rIf, vIf, dNeg, dTup, dLst, dTupS, dLstS, aNil, aCons, aStar, rCall, dCall, dCallK, pick, on1, on2, dLen, i1, i2, dInt, dIsi, dTru, dFld, rCut, rRev, dRevS, oNone, oSome, dCut, iOf, iArg, zip2_e, enu1_e, rng1, rng2, rComp, bYes, cChain, cChain3, dInB, inD, D.fl, toV, L2.eqV, dAdd, dSub, dMul, dMulA, dFd, dMd, dPw, iI, iC, frz, viewN, viewB, wipeV, toSl, D.items, vDr, iDr, sDrPut, rDrNext, vDct, sNever, L2.atI, dIx, dList, dTuple, dEq, dNe, D.okd, okdL, D.eqb, D.py, pyL, dSum, dSumA, dSorted, dAll, dAny, dNotB, dIsB, dIsN, dNotN, D.isNon, sDrPull, sRaise0, vDct1, dCaught, dfL, dNeS, sRaise1, dXf, dmS, jCons, jFlds, iCons, iNil, putD, sParsN, sParsB, rsN, putK, lfRs, lfR, dCallV, sCaughtApp, sFz, rLRg1, rLRg2, dLRg, gTupL_l, vDctI, rComp2, eqv_ii, eqv_tt, eqv_ll, eqvA_c, eqvA_n]
  refine ⟨by omega, ?_⟩
  refine forD_rngD (m := (2 + iMin (ns.length : Int) 6).toNat) (by omega) (fun _ ρ => ∃ x2 x3 x4 : Option Slot, ρ = SL ns x2 x3 x4) ?_ ?_ _ ⟨_, _, _, rfl⟩
  · rintro i ρ _ ⟨x2, x3, x4, rfl⟩ κ hκ
    simp [SL, dfS, startD, sCons, sNil, sSetN, sSetB, sOwnN, sOwnB, sIf, sRetB, sRetNone, sRetO, sFor, sAsgN, sAsgB, sAsgF, gTupL_l, sParN, sParB, slotR, lfR, sExpr, sAppN, sAppB, augI, gTup_t, gCons_c, gCons_n, gNil_n, gNil_c, gN, dVar, dC, vR, rV, rBin, cBin, bV, bTru, bNot, bAnd, bOr, vAnd, vOr, vNot, rIf, vIf, dNeg, dTup, dLst, dTupS, dLstS, aNil, aCons, aStar, rCall, dCall, dCallK, pick, on1, on2, dLen, i1, i2, dInt, dIsi, dTru, dFld, rCut, rRev, dRevS, oNone, oSome, dCut, iOf, iArg, zip2_e, enu1_e, rng1, rng2, rComp, bYes, cChain, cChain3, dInB, inD, D.fl, toV, L2.eqV, dAdd, dSub, dMul, dMulA, dFd, dMd, dPw, iI, iC, frz, viewN, viewB, wipeV, toSl, D.items, vDr, iDr, sDrPut, rDrNext, vDct, sNever, L2.atI, dIx, dList, dTuple, dEq, dNe, D.okd, okdL, D.eqb, D.py, pyL, dSum, dSumA, dSorted, dAll, dAny, dNotB, dIsB, dIsN, dNotN, D.isNon, sDrPull, sRaise0, vDct1, dCaught, dfL, dNeS, sRaise1, dXf, dmS, jCons, jFlds, iCons, iNil, putD, sParsN, sParsB, rsN, putK, lfRs, lfR, dCallV, sCaughtApp, sFz, rLRg1, rLRg2, dLRg, gTupL_l, vDctI, rComp2, eqv_ii, eqv_tt, eqv_ll, eqvA_c, eqvA_n]
    refine sp_some_pair _ _ fun p p0 p1 p2 p3 => ?_
    simp [dp, ix20, ix21, dfS, startD, sCons, sNil, sSetN, sSetB, sOwnN, sOwnB, sIf, sRetB, sRetNone, sRetO, sFor, sAsgN, sAsgB, sAsgF, gTupL_l, sParN, sParB, slotR, lfR, sExpr, sAppN, sAppB, augI, gTup_t, gCons_c, gCons_n, gNil_n, gNil_c, gN, dVar, dC, vR, rV, rBin, cBin, bV, bTru, bNot, bAnd, bOr, vAnd, vOr, vNot, rIf, vIf, dNeg, dTup, dLst, dTupS, dLstS, aNil, aCons, aStar, rCall, dCall, dCallK, pick, on1, on2, dLen, i1, i2, dInt, dIsi, dTru, dFld, rCut, rRev, dRevS, oNone, oSome, dCut, iOf, iArg, zip2_e, enu1_e, rng1, rng2, rComp, bYes, cChain, cChain3, dInB, inD, D.fl, toV, L2.eqV, dAdd, dSub, dMul, dMulA, dFd, dMd, dPw, iI, iC, frz, viewN, viewB, wipeV, toSl, D.items, vDr, iDr, sDrPut, rDrNext, vDct, sNever, L2.atI, dIx, dList, dTuple, dEq, dNe, D.okd, okdL, D.eqb, D.py, pyL, dSum, dSumA, dSorted, dAll, dAny, dNotB, dIsB, dIsN, dNotN, D.isNon, sDrPull, sRaise0, vDct1, dCaught, dfL, dNeS, sRaise1, dXf, dmS, jCons, jFlds, iCons, iNil, putD, sParsN, sParsB, rsN, putK, lfRs, lfR, dCallV, sCaughtApp, sFz, rLRg1, rLRg2, dLRg, gTupL_l, vDctI, rComp2, eqv_ii, eqv_tt, eqv_ll, eqvA_c, eqvA_n]
    have p4 : PO (3, 7) := ⟨⟨by decide, by decide, by decide⟩, by decide⟩
    exact ⟨c30, fun _ => bt tk ns (3, 7) p4 _ _ _ fun _ _ _ => hκ _ ⟨_, _, _, rfl⟩, fun c => bt tk ns p ⟨⟨p0, p1, c⟩, p3⟩ _ _ _ fun _ _ _ => hκ _ ⟨_, _, _, rfl⟩⟩
  rintro ρ ⟨x2, x3, x4, rfl⟩
  simp [SL, dfS, startD, sCons, sNil, sSetN, sSetB, sOwnN, sOwnB, sIf, sRetB, sRetNone, sRetO, sFor, sAsgN, sAsgB, sAsgF, gTupL_l, sParN, sParB, slotR, lfR, sExpr, sAppN, sAppB, augI, gTup_t, gCons_c, gCons_n, gNil_n, gNil_c, gN, dVar, dC, vR, rV, rBin, cBin, bV, bTru, bNot, bAnd, bOr, vAnd, vOr, vNot, rIf, vIf, dNeg, dTup, dLst, dTupS, dLstS, aNil, aCons, aStar, rCall, dCall, dCallK, pick, on1, on2, dLen, i1, i2, dInt, dIsi, dTru, dFld, rCut, rRev, dRevS, oNone, oSome, dCut, iOf, iArg, zip2_e, enu1_e, rng1, rng2, rComp, bYes, cChain, cChain3, dInB, inD, D.fl, toV, L2.eqV, dAdd, dSub, dMul, dMulA, dFd, dMd, dPw, iI, iC, frz, viewN, viewB, wipeV, toSl, D.items, vDr, iDr, sDrPut, rDrNext, vDct, sNever, L2.atI, dIx, dList, dTuple, dEq, dNe, D.okd, okdL, D.eqb, D.py, pyL, dSum, dSumA, dSorted, dAll, dAny, dNotB, dIsB, dIsN, dNotN, D.isNon, sDrPull, sRaise0, vDct1, dCaught, dfL, dNeS, sRaise1, dXf, dmS, jCons, jFlds, iCons, iNil, putD, sParsN, sParsB, rsN, putK, lfRs, lfR, dCallV, sCaughtApp, sFz, rLRg1, rLRg2, dLRg, gTupL_l, vDctI, rComp2, eqv_ii, eqv_tt, eqv_ll, eqvA_c, eqvA_n]
  have po : PO (3, 7) := ⟨⟨by decide, by decide, by decide⟩, by decide⟩
  have g1 : G2 [3, 2, 2] := fun x hx => by simp only [List.mem_cons, List.mem_nil_iff, or_false] at hx; omega
  have l1 : Leg [3, 2, 2] 3 7 := fr_leg g1
  have pe : pL 3 7 [3, 2, 2] = [(0, 7), (1, 3), (3, 2), (5, 1), (7, 0)] := by decide
  have pl : Pl 2 30000 (.lst ((pL 3 7 [3, 2, 2]).map dp)) := pl_list (fun z hz => small po l1 hz) (by rw [pe]; decide)
  refine sp_leg_points (3, 7) po [3, 2, 2] l1 _ _ (fun _ => ?_) fun c => absurd c (by decide)
  refine dRepr_pl pl (by decide) (by decide) _ ?_
  rw [show ((pL 3 7 [3, 2, 2]).map dp) = [D.tup [D.int 0, D.int 7], D.tup [D.int 1, D.int 3], D.tup [D.int 3, D.int 2], D.tup [D.int 5, D.int 1], D.tup [D.int 7, D.int 0]] by rw [pe]; rfl] at pl
  refine dRepr_pl pl (by decide) (by decide) _ ?_
  have rs : Rs 3 7 [3, 2, 2] (4, 5) 1 1 1 := .inl ⟨(1, 3), (3, 2), by rw [pe]; rfl, by rw [pe]; rfl, by decide, by decide, by decide⟩
  have lp := rs_lp (po.pk l1) rs
  have go : F_point_sum [.tup [.int 3, .int 7], .tup [.int 4, .int 5]] (fun r => D.okd 60 (frz r) = true ∧ (frz r).py.eqv (PyData.tuple [PyData.int 1, PyData.int 1, PyData.int 1]) = true) fun x => False := by
    refine sp_point_sum (3, 7) po [3, 2, 2] l1 (by decide) (4, 5) (by decide) (by decide) lp _ _ fun t m n rs' => ?_
    obtain ⟨e1, e2, e3⟩ := rs_uniq (po.pk l1) lp rs rs'
    subst e1 e2 e3
    exact ⟨by decide, by simp [frz, D.py, pyL, eqv_tt, eqvA_c, eqvA_n, eqv_ii]⟩
  have e2 : (D.lst ((pL 3 7 [3, 2, 2]).map dp)) = .lst [D.tup [D.int 0, D.int 7], D.tup [D.int 1, D.int 3], D.tup [D.int 3, D.int 2], D.tup [D.int 5, D.int 1], D.tup [D.int 7, D.int 0]] := by rw [pe]; rfl
  rw [e2]
  refine ⟨fun _ => go, fun c => ?_⟩
  simp at c
end K12

set_option maxHeartbeats 0

open PySem PySem.W PyProof.Rows in
set_option maxRecDepth 100000 in
set_option maxHeartbeats 0 in
theorem PySem.Challenge.cw_ringstream_k12_whole_least_points_holds : PySem.Challenge.rw_ringstream_k12_whole_least_points.Holds := by
  w_on; o_law; k_head; (case hw => w_witness2)
  k_fill
  refine Dv.end_walkT (n := 63) (k := 8) (x := "script") K12.lxs K12.lmT K12.lqs rfl (by decide) rfl ⟨rfl, by decide, by decide⟩ (fun w h Y => by first | exact PySem.W.kIn_of Y | exact PySem.W.km_in_of Y) ?R ?F
  case R =>
    intro x hx
    simp only [K12.lxs, List.mem_cons, List.mem_nil_iff, or_false] at hx
    rcases hx with rfl | rfl
    all_goals exact ⟨_, rfl⟩
  case F =>
    intro w
    refine' K12.all_mk (l := PySem.Challenge.rw_ringstream_k12_whole_least_points) K12.law_pure K12.beg_ok ?a0 ?l0 ?c0 ?k0 ?a1 ?l1 ?c1 ?k1 ?a2 ?l2 ?c2 ?k2 ?a3 ?l3 ?c3 ?k3 ?a4 ?l4 ?c4 ?k4 ?a5 ?l5 ?c5 ?k5 ?a6 ?l6 ?c6 ?k6 ?a7 ?l7 ?c7 ?k7 ?a8 ?l8 ?c8 ?k8 ?a9 ?l9 ?c9 ?k9 ?a10 ?l10 ?c10 ?k10 ?a11 ?l11 ?c11 ?k11 ?a12 ?l12 ?c12 ?k12 ?a13 ?l13 ?c13 ?k13 ?a14 ?l14 ?c14 ?k14 ?a15 ?l15 ?c15 ?k15 ?a16 ?l16 ?c16 ?k16 ?a17 ?l17 ?c17 ?k17 ?a18 ?l18 ?c18 ?k18 ?a19 ?l19 ?c19 ?k19 ?a20 ?l20 ?c20 ?k20 ?a21 ?l21 ?c21 ?k21 ?a22 ?l22 ?c22 ?k22 ?a23 ?l23 ?c23 ?k23 ?a24 ?l24 ?c24 ?k24 ?a25 ?l25 ?c25 ?k25 ?a26 ?l26 ?c26 ?k26 ?ce26 ?ct_26 ?cp26 ?n26 ?a27 ?l27 ?c27 ?k27 ?ce27 ?ct_27 ?cp27 ?n27 ?a28 ?l28 ?c28 ?k28 ?d26_27 ?aR ?bR ?dR ?tR ?eA0 ?eq0 ?ek0 ?eb0 ?et0 ?er0 ?eg0 ?eh0 ?ed0 ?ec0 ?em0 ?eA1 ?eq1 ?ek1 ?eb1 ?et1 ?er1 ?eg1 ?eh1 ?ed1 ?ec1 ?em1 ?eA2 ?ek2 ?eu2 ?ev2 ?ew2 ?ex2 ?ey2 ?ez2 ?ea2 ?ei2 ?ej2 ?el2 ?eo2 ?ep2 ?es2 ?ef2 ?en2 ?eb2 ?et2 ?er2 ?eg2 ?eh2 ?ed2 ?ec2 ?em2 ?hst ?hsu ?hsm ?icE0 ?tcE0 ?cbE0_int ?cbE0_bool ?cbE0_tuple ?cbE0_list ?cbE0_str ?cbE0_dict ?cbE0_float ?ccE0_E0 ?ccE0_E1 ?ccE0_E2 ?icE1 ?tcE1 ?cbE1_int ?cbE1_bool ?cbE1_tuple ?cbE1_list ?cbE1_str ?cbE1_dict ?cbE1_float ?ccE1_E0 ?ccE1_E1 ?ccE1_E2 ?icE2 ?tcE2 ?cbE2_int ?cbE2_bool ?cbE2_tuple ?cbE2_list ?cbE2_str ?cbE2_dict ?cbE2_float ?ccE2_E0 ?ccE2_E1 ?ccE2_E2 ?hn ?htk ?zb_abs ?zb_bool ?zb_enumerate ?zb_int ?zb_isinstance ?zb_len ?zb_list ?zb_max ?zb_min ?zb_range ?zb_repr ?zb_tuple ?zm_gcd ?zi_MOST_BELOW ?zi_MOST_NUMBERS
    (case a0 => k_is)
    (case l0 => k_is)
    (case c0 => k_is)
    (case k0 => k_is)
    (case a1 => k_is)
    (case l1 => k_is)
    (case c1 => k_is)
    (case k1 => k_is)
    (case a2 => k_is)
    (case l2 => k_is)
    (case c2 => k_is)
    (case k2 => k_is)
    (case a3 => k_is)
    (case l3 => k_is)
    (case c3 => k_is)
    (case k3 => k_is)
    (case a4 => k_is)
    (case l4 => k_is)
    (case c4 => k_is)
    (case k4 => k_is)
    (case a5 => k_is)
    (case l5 => k_is)
    (case c5 => k_is)
    (case k5 => k_is)
    (case a6 => k_is)
    (case l6 => k_is)
    (case c6 => k_is)
    (case k6 => k_is)
    (case a7 => k_is)
    (case l7 => k_is)
    (case c7 => k_is)
    (case k7 => k_is)
    (case a8 => k_is)
    (case l8 => k_is)
    (case c8 => k_is)
    (case k8 => k_is)
    (case a9 => k_is)
    (case l9 => k_is)
    (case c9 => k_is)
    (case k9 => k_is)
    (case a10 => k_is)
    (case l10 => k_is)
    (case c10 => k_is)
    (case k10 => k_is)
    (case a11 => k_is)
    (case l11 => k_is)
    (case c11 => k_is)
    (case k11 => k_is)
    (case a12 => k_is)
    (case l12 => k_is)
    (case c12 => k_is)
    (case k12 => k_is)
    (case a13 => k_is)
    (case l13 => k_is)
    (case c13 => k_is)
    (case k13 => k_is)
    (case a14 => k_is)
    (case l14 => k_is)
    (case c14 => k_is)
    (case k14 => k_is)
    (case a15 => k_is)
    (case l15 => k_is)
    (case c15 => k_is)
    (case k15 => k_is)
    (case a16 => k_is)
    (case l16 => k_is)
    (case c16 => k_is)
    (case k16 => k_is)
    (case a17 => k_is)
    (case l17 => k_is)
    (case c17 => k_is)
    (case k17 => k_is)
    (case a18 => k_is)
    (case l18 => k_is)
    (case c18 => k_is)
    (case k18 => k_is)
    (case a19 => k_is)
    (case l19 => k_is)
    (case c19 => k_is)
    (case k19 => k_is)
    (case a20 => k_is)
    (case l20 => k_is)
    (case c20 => k_is)
    (case k20 => k_is)
    (case a21 => k_is)
    (case l21 => k_is)
    (case c21 => k_is)
    (case k21 => k_is)
    (case a22 => k_is)
    (case l22 => k_is)
    (case c22 => k_is)
    (case k22 => k_is)
    (case a23 => k_is)
    (case l23 => k_is)
    (case c23 => k_is)
    (case k23 => k_is)
    (case a24 => k_is)
    (case l24 => k_is)
    (case c24 => k_is)
    (case k24 => k_is)
    (case a25 => k_is)
    (case l25 => k_is)
    (case c25 => k_is)
    (case k25 => k_is)
    (case a26 => k_is)
    (case l26 => k_is)
    (case c26 => k_is)
    (case k26 => k_is)
    (case ce26 => rfl)
    (case ct_26 => k_is)
    (case cp26 => rfl)
    (case n26 => first | decide +kernel | kernel_rfl | rfl)
    (case a27 => k_is)
    (case l27 => k_is)
    (case c27 => k_is)
    (case k27 => k_is)
    (case ce27 => rfl)
    (case ct_27 => k_is)
    (case cp27 => rfl)
    (case n27 => first | decide +kernel | kernel_rfl | rfl)
    (case a28 => k_is)
    (case l28 => k_is)
    (case c28 => k_is)
    (case k28 => k_is)
    (case d26_27 => decide)
    (case aR => k_is)
    (case bR => k_is)
    (case dR => k_is)
    (case tR => k_is)
    (case eA0 => k_is)
    (case eq0 => k_exc)
    (case ek0 => k_is)
    (case eb0 => k_is)
    (case et0 => k_is)
    (case er0 => k_is)
    (case eg0 => k_is)
    (case eh0 => k_is)
    (case ed0 => k_is)
    (case ec0 => k_is)
    (case em0 => k_is)
    (case eA1 => k_is)
    (case eq1 => k_exc)
    (case ek1 => k_is)
    (case eb1 => k_is)
    (case et1 => k_is)
    (case er1 => k_is)
    (case eg1 => k_is)
    (case eh1 => k_is)
    (case ed1 => k_is)
    (case ec1 => k_is)
    (case em1 => k_is)
    (case eA2 => k_is)
    (case ek2 => k_is)
    (case eu2 => k_is)
    (case ev2 => first | rfl | decide +kernel)
    (case ew2 => ks_is)
    (case ex2 => k_is)
    (case ey2 => k_is)
    (case ez2 => k_is)
    (case ea2 => k_is)
    (case ei2 => k_is)
    (case ej2 => k_is)
    (case el2 => k_is)
    (case eo2 => k_is)
    (case ep2 => k_is)
    (case es2 => rfl)
    (case ef2 => first | rfl | decide +kernel | kernel_rfl)
    (case en2 => k_is)
    (case eb2 => k_is)
    (case et2 => k_is)
    (case er2 => k_is)
    (case eg2 => k_is)
    (case eh2 => k_is)
    (case ed2 => k_is)
    (case ec2 => k_is)
    (case em2 => k_is)
    (case hst => k_is)
    (case hsu => k_is)
    (case hsm => first | rfl | decide +kernel | kernel_rfl)
    (case icE0 => k_is)
    (case tcE0 => k_is)
    (case cbE0_int => k_is)
    (case cbE0_bool => k_is)
    (case cbE0_tuple => k_is)
    (case cbE0_list => k_is)
    (case cbE0_str => k_is)
    (case cbE0_dict => k_is)
    (case cbE0_float => k_is)
    (case ccE0_E0 => k_is)
    (case ccE0_E1 => k_is)
    (case ccE0_E2 => k_is)
    (case icE1 => k_is)
    (case tcE1 => k_is)
    (case cbE1_int => k_is)
    (case cbE1_bool => k_is)
    (case cbE1_tuple => k_is)
    (case cbE1_list => k_is)
    (case cbE1_str => k_is)
    (case cbE1_dict => k_is)
    (case cbE1_float => k_is)
    (case ccE1_E0 => k_is)
    (case ccE1_E1 => k_is)
    (case ccE1_E2 => k_is)
    (case icE2 => k_is)
    (case tcE2 => k_is)
    (case cbE2_int => k_is)
    (case cbE2_bool => k_is)
    (case cbE2_tuple => k_is)
    (case cbE2_list => k_is)
    (case cbE2_str => k_is)
    (case cbE2_dict => k_is)
    (case cbE2_float => k_is)
    (case ccE2_E0 => k_is)
    (case ccE2_E1 => k_is)
    (case ccE2_E2 => k_is)
    (case hn => k_is)
    (case htk => k_is)
    (case zb_abs => k_is)
    (case zb_bool => k_is)
    (case zb_enumerate => k_is)
    (case zb_int => k_is)
    (case zb_isinstance => k_is)
    (case zb_len => k_is)
    (case zb_list => k_is)
    (case zb_max => k_is)
    (case zb_min => k_is)
    (case zb_range => k_is)
    (case zb_repr => k_is)
    (case zb_tuple => k_is)
    (case zm_gcd => k_is)
    (case zi_MOST_BELOW => k_is)
    (case zi_MOST_NUMBERS => k_is)
